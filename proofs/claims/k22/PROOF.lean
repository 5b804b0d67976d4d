import PyProof.Rows.All
import Wide.All
import OpenK.AllK
import Wide.FinOn
import HandS.ForMost
import HandS.ForExc
import HandS.Deep
import HandS.TupAny
import HandS.Wide
import HandS.IsInst
import HandS.ExcOwn
import HandS.Comp
import HandS.Iter
import HandS.Zip
import HandS.DictTup
import KE.KDictWalk
import KE.GoesMore
import KE.GoesEnum
import PyProof.ListNew
import KE.DataMinMax
import HandS.More
import HandS.DictComp
import PyProof.CompUse
import HandS.Style
import HandS.Small
import HandS.WordsExc
import PyProof.P3Eq
import PySem.Challenge.RW_haulropes_k22_whole_chains_and_circles
set_option Elab.async false
set_option linter.all false
set_option maxRecDepth 100000
/-! HR, part 1: a small language of values, stores and programs, and its evaluator. -/
namespace HR
open PySem

abbrev Key := Sum Int Str

/-- a value; tuples by value; mutable things by their place in the store -/
inductive D where
  | non | bl (b : Bool) | int (i : Int) | str (x : Str) | byt (b : Array UInt8)
  | tup (xs : List D) | ref (k : Nat) | scr (ns : List Int)

/-- what stands at a place of the store -/
inductive O where
  | lst (xs : List D)
  | dK (lk : Bool) (kvs : List (Key × D))
  | dT (lk : Bool) (kvs : List (List Key × D))
  | ins (c : Nat) (fs : List (Nat × D))
abbrev Mem := List O
abbrev Sl := List (Option D)

inductive R (α : Type) where
  | ok (a : α) (m : Mem)
  | exn (c : Nat) (fs : List (Nat × D)) (m : Mem)
  | bad
def R.bind {α β : Type} (r : R α) (f : α → Mem → R β) : R β :=
  match r with
  | .ok a m => f a m
  | .exn c fs m => .exn c fs m
  | .bad => .bad
theorem R.bind_ok {α β : Type} {a : α} {m : Mem} {f : α → Mem → R β} : (R.ok a m).bind f = f a m := rfl
theorem R.bind_assoc {α β γ : Type} {r : R α} {f : α → Mem → R β} {g : β → Mem → R γ} : (r.bind f).bind g = r.bind fun a m => (f a m).bind g := by
  cases r <;> rfl
/-- nothing may be raised here -/
def R.calm {α : Type} (r : R α) : R α :=
  match r with
  | .exn _ _ _ => .bad
  | r => r
def R.of {α : Type} (m : Mem) (o : Option α) : R α :=
  match o with
  | some a => .ok a m
  | none => .bad

inductive Ty where
  | int | bool | str | tuple | list
  deriving DecidableEq
/-- built-in functions -/
inductive B where
  | len | sum | min | max | min2 | max2 | abs | int | str | tuple | list | dict | sorted | all | any | listRange
  deriving DecidableEq
/-- methods of built-in types -/
inductive BM where
  | append | extend | pop0 | pop1 | insert | reverse | clear | index | count | get2 | split | join
  deriving DecidableEq
/-- what is walked -/
inductive IK where
  | any | rng | enum | zip | items
  deriving DecidableEq
/-- a target of names -/
inductive P where
  | name (i : Nat) | tup (ps : List P)

inductive E where
  | var (i : Nat)
  | int (i : Int) | bl (b : Bool) | non | str (s : Str)
  | gint (x : Str) (i : Int)
  | bin (op : Operator) (a b : E)
  | neg (a : E) | not (a : E)
  | cmp (op : CmpOp) (a b : E)
  | cmp2 (op op2 : CmpOp) (a b c : E)
  | and (a b : E) | or (a b : E)
  | ite (c a b : E)
  | tup (es : List E) | lst (es : List E)
  | idx (a i : E)
  | slc (a : E) (lo hi : List E)
  | fld (a : E) (f : Nat)
  | call (f : Nat) (es : List E)
  | meth (m : Nat) (o : E) (es : List E)
  | make (c : Nat) (es : List E)
  | blt (b : B) (es : List E)
  | bm (b : BM) (o : E) (es : List E)
  | isi (a : E) (t : Ty)
  | lc (own : List Nat) (ik : IK) (it : List E) (p : P) (cond : List E) (elt : E)
  | dc (tk : Bool) (own : List Nat) (ik : IK) (it : List E) (p : P) (cond : List E) (k v : E)
  | dnew (tk : Bool)
  | lz (a b : E)

inductive T where
  | pat (p : P)
  | fld (o : E) (f : Nat)
  | sub (o i : E)
  | tup (ts : List T)

inductive S where
  | nev
  | pas
  | ex (e : E)
  | asg (t : T) (e : E)
  | par (is : List Nat) (es : List E)
  | aug (i : Nat) (op : Operator) (e : E)
  | ifS (c : E) (a b : List S)
  | forS (ik : IK) (it : List E) (p : P) (body : List S)
  | whl (c : E) (body : List S)
  | ret (e : E)
  | brk | cnt
  | rse (c : Nat)
  | tryR (body : List S) (x : Nat) (b : Bool)

inductive Fl where
  | nx | bk | ct | rt (d : D) | ex (c : Nat) (fs : List (Nat × D))
/-- in a statement: what is raised becomes a way out -/
def R.sb {α : Type} (x : R α) (r : Sl) (f : α → Mem → R (Fl × Sl)) : R (Fl × Sl) :=
  match x with
  | .ok a m => f a m
  | .exn c fs m => .ok (.ex c fs, r) m
  | .bad => .bad
theorem R.sb_ok {α : Type} {a : α} {m : Mem} {r : Sl} {f : α → Mem → R (Fl × Sl)} : (R.ok a m).sb r f = f a m := rfl

/-- what the evaluator asks of the program around -/
structure Cx where
  call : Nat → List D → Mem → R D
  meth : Nat → Nat → Option Nat
  init : Nat → Option Nat

/-! ### values -/
def big : Nat := 1000000
def listAt (m : Mem) (k : Nat) : Option (List D) :=
  match m[k]? with
  | some (.lst xs) => some xs
  | _ => none
def seqOf (m : Mem) : D → Option (List D)
  | .tup xs => some xs
  | .scr ns => some (ns.map .int)
  | .ref k => listAt m k
  | _ => none
/-- as data of the library -/
def toPy (m : Mem) : Nat → D → Option PyData
  | 0, _ => none
  | _ + 1, .non => some .none
  | _ + 1, .bl b => some (.bool b)
  | _ + 1, .int i => some (.int i)
  | _ + 1, .str x => some (.str x)
  | _ + 1, .byt _ => none
  | _ + 1, .scr _ => none
  | n + 1, .tup xs => (xs.mapM (toPy m n)).map .tuple
  | n + 1, .ref k => (listAt m k).bind fun xs => (xs.mapM (toPy m n)).map .list
def pyOk (m : Mem) (d : D) : Option PyData := (toPy m 8 d).bind fun p => if SeqAt.shaped p then some p else none
def eqD (m : Mem) (x y : D) : Option Bool := (pyOk m x).bind fun a => (pyOk m y).bind fun b => some (PyData.eqv a b)
def isFlat : D → Bool
  | .non | .bl _ | .int _ | .str _ => true
  | _ => false
def eqF : D → D → Bool
  | .non, .non => true
  | .bl a, .bl b => a == b
  | .bl a, .int b => (if a then 1 else 0) == b
  | .int a, .bl b => a == (if b then 1 else 0)
  | .int a, .int b => a == b
  | .str a, .str b => a == b
  | _, _ => false
def keyOf : D → Option Key
  | .int i => some (.inl i)
  | .str x => some (.inr x)
  | _ => none
def keyD : Key → D
  | .inl i => .int i
  | .inr x => .str x
def keysOf : D → Option (List Key)
  | .tup xs => xs.mapM keyOf
  | _ => none
def getK {κ : Type} [DecidableEq κ] (kvs : List (κ × D)) (k : κ) : Option D := (kvs.find? fun kv => decide (kv.1 = k)).map (·.2)
def putK {κ : Type} [DecidableEq κ] (kvs : List (κ × D)) (k : κ) (v : D) : List (κ × D) :=
  if (kvs.any fun kv => decide (kv.1 = k)) = true then kvs.map (fun kv => if kv.1 = k then (kv.1, v) else kv) else kvs ++ [(k, v)]
/-- is y in the dict at k; none: not a dict, not a key of it -/
def dictAt (m : Mem) (k : Nat) (y : D) : Option (Option D) :=
  match m[k]? with
  | some (.dK _ kvs) => (keyOf y).map fun q => getK kvs q
  | some (.dT _ kvs) => (keysOf y).map fun q => getK kvs q
  | _ => none
def inD (m : Mem) (x y : D) : Option Bool :=
  match y with
  | .tup xs => if isFlat x && xs.all isFlat then some (xs.any fun z => eqF z x) else (pyOk m x).bind fun a => (pyOk m y).bind fun b => match b with
    | .tuple ds => some (ds.any fun z => PyData.eqv z a)
    | _ => none
  | .ref k => match listAt m k with
    | some xs => if isFlat x && xs.all isFlat then some (xs.any fun z => eqF z x) else (pyOk m x).bind fun a => (pyOk m y).bind fun b => match b with
      | .list ds => some (ds.any fun z => PyData.eqv z a)
      | _ => none
    | none => (dictAt m k x).map (·.isSome)
  | _ => none
def isNon : D → Bool
  | .non => true
  | _ => false
def cmpV (op : CmpOp) (x y : D) (m : Mem) : Option Bool :=
  match op with
  | .Lt => match x, y with | .int i, .int j => some (decide (i < j)) | _, _ => none
  | .LtE => match x, y with | .int i, .int j => some (decide (i ≤ j)) | _, _ => none
  | .Gt => match x, y with | .int i, .int j => some (decide (j < i)) | _, _ => none
  | .GtE => match x, y with | .int i, .int j => some (decide (j ≤ i)) | _, _ => none
  | .Eq => eqD m x y
  | .NotEq => (eqD m x y).map (!·)
  | .Is => match y with
    | .non => some (isNon x)
    | _ => none
  | .IsNot => match y with
    | .non => some (!isNon x)
    | _ => none
  | .In => inD m x y
  | .NotIn => (inD m x y).map (!·)
@[irreducible] def small (i : Int) : Bool := decide (-(2 ^ 64) < i ∧ i < 2 ^ 64)
def binV (op : Operator) (x y : D) (m : Mem) : R D :=
  match op with
  | .Add => match x, y with
    | .int i, .int j => .ok (.int (i + j)) m
    | .str a, .str b => if a.length + b.length ≤ big then .ok (.str (a ++ b)) m else .bad
    | .tup a, .tup b => if a.length + b.length ≤ big then .ok (.tup (a ++ b)) m else .bad
    | .ref a, .ref b => match m[a]?, m[b]? with
      | some (.lst xs), some (.lst ys) => if xs.length + ys.length ≤ big then .ok (.ref m.length) (m ++ [.lst (xs ++ ys)]) else .bad
      | _, _ => .bad
    | _, _ => .bad
  | .Sub => match x, y with | .int i, .int j => .ok (.int (i - j)) m | _, _ => .bad
  | .Mult => match x, y with
    | .int i, .int j => if small i || small j then .ok (.int (i * j)) m else .bad
    | .ref a, .int k => match m[a]? with
      | some (.lst xs) => if 0 ≤ k ∧ k ≤ 1000 ∧ xs.length ≤ 1000 then .ok (.ref m.length) (m ++ [.lst (List.replicate k.toNat xs).flatten]) else .bad
      | _ => .bad
    | _, _ => .bad
  | .FloorDiv => match x, y with | .int i, .int j => if 0 < j ∧ j < 2 ^ 64 then .ok (.int (i / j)) m else .bad | _, _ => .bad
  | .Mod => match x, y with | .int i, .int j => if 0 < j then .ok (.int (i % j)) m else .bad | _, _ => .bad
  | .Pow => match x, y with | .int i, .int j => if 0 ≤ j ∧ j ≤ 1000 ∧ small i then .ok (.int (i ^ j.toNat)) m else .bad | _, _ => .bad
  | _ => .bad
def boolOf : D → Option Bool
  | .bl b => some b
  | _ => none
def intOf : D → Option Int
  | .int i => some i
  | _ => none
def intsOf (xs : List D) : Option (List Int) := xs.mapM intOf
def boolsOf (xs : List D) : Option (List Bool) := xs.mapM boolOf
def cut {α : Type} (xs : List α) (lo hi : Option Int) : List α := (xs.drop (_root_.HT.sIx xs.length 0 lo)).take (_root_.HT.sIx xs.length xs.length hi - _root_.HT.sIx xs.length 0 lo)
def idxV (a i : D) (m : Mem) : Option D :=
  match a, i with
  | .tup xs, .int i => L2.atI xs i
  | .scr ns, .int i => (L2.atI ns i).map .int
  | .ref k, i => match listAt m k with
    | some xs => match i with
      | .int i => L2.atI xs i
      | _ => none
    | none => (dictAt m k i).bind id
  | _, _ => none
def slcV (a : D) (lo hi : Option Int) (m : Mem) : R D :=
  match a with
  | .tup xs => .ok (.tup (cut xs lo hi)) m
  | .ref k => match listAt m k with
    | some xs => .ok (.ref m.length) (m ++ [.lst (cut xs lo hi)])
    | none => .bad
  | _ => .bad
def fldV (a : D) (f : Nat) (m : Mem) : Option D :=
  match a with
  | .ref k => match m[k]? with
    | some (.ins _ fs) => fs.lookup f
    | _ => none
  | _ => none
def putA (f : Nat) (v : D) : List (Nat × D) → List (Nat × D)
  | [] => [(f, v)]
  | (g, w) :: r => if g = f then (g, v) :: r else (g, w) :: putA f v r
def clsOf (a : D) (m : Mem) : Option Nat :=
  match a with
  | .ref k => match m[k]? with
    | some (.ins c _) => some c
    | _ => none
  | _ => none
def bltV (b : B) (ds : List D) (m : Mem) : R D :=
  match b, ds with
  | .len, [d] => match d with
    | .ref k => match m[k]? with
      | some (.lst xs) => .ok (.int xs.length) m
      | _ => .bad
    | .tup xs => .ok (.int xs.length) m
    | .scr ns => .ok (.int ns.length) m
    | _ => .bad
  | .sum, [.ref k] => match (listAt m k).bind intsOf with | some ns => .ok (.int ns.sum) m | none => .bad
  | .max2, [.int i, .int j] => .ok (.int (if j > i then j else i)) m
  | .min2, [.int i, .int j] => .ok (.int (if j < i then j else i)) m
  | .max, [.ref k] => match (listAt m k).bind intsOf with | some (n :: ns) => .ok (.int (ns.foldl max n)) m | _ => .bad
  | .min, [.ref k] => match (listAt m k).bind intsOf with | some (n :: ns) => .ok (.int (ns.foldl min n)) m | _ => .bad
  | .max, [.tup xs] => match intsOf xs with | some (n :: ns) => .ok (.int (ns.foldl max n)) m | _ => .bad
  | .min, [.tup xs] => match intsOf xs with | some (n :: ns) => .ok (.int (ns.foldl min n)) m | _ => .bad
  | .abs, [.int i] => .ok (.int (if i < 0 then -i else i)) m
  | .int, [.int i] => .ok (.int i) m
  | .int, [.bl b] => .ok (.int (if b then 1 else 0)) m
  | .tuple, [.tup xs] => .ok (.tup xs) m
  | .tuple, [.ref k] => match m[k]? with | some (.lst xs) => .ok (.tup xs) m | _ => .bad
  | .list, [d] => match seqOf m d with | some xs => .ok (.ref m.length) (m ++ [.lst xs]) | none => .bad
  | .all, [.ref k] => match (listAt m k).bind boolsOf with | some bs => .ok (.bl (bs.all id)) m | none => .bad
  | .any, [.ref k] => match (listAt m k).bind boolsOf with | some bs => .ok (.bl (bs.any id)) m | none => .bad
  | .dict, [.ref k] => match m[k]? with | some (.dK _ kvs) => .ok (.ref m.length) (m ++ [.dK false kvs]) | _ => .bad
  | _, _ => .bad
/-- is the receiver of the right kind -/
def isDict (m : Mem) (k : Nat) : Bool :=
  match m[k]? with
  | some (.dK _ _) => true
  | some (.dT _ _) => true
  | _ => false
def rcv (b : BM) (o : D) (m : Mem) : Bool :=
  match o with
  | .ref k => match b with
    | .get2 => isDict m k
    | _ => (listAt m k).isSome
  | _ => false
def bmV (b : BM) (o : D) (ds : List D) (m : Mem) : R D :=
  match o with
  | .ref k => match b, ds with
    | .append, [d] => match m[k]? with
      | some (.lst xs) => if xs.length < big then .ok .non (m.set k (.lst (xs ++ [d]))) else .bad
      | _ => .bad
    | .extend, [.ref j] => match m[k]?, m[j]? with
      | some (.lst xs), some (.lst ys) => if xs.length + ys.length ≤ big then .ok .non (m.set k (.lst (xs ++ ys))) else .bad
      | _, _ => .bad
    | .pop0, [] => match m[k]? with
      | some (.lst xs) => match xs.getLast? with
        | some y => .ok y (m.set k (.lst xs.dropLast))
        | none => .bad
      | _ => .bad
    | .pop1, [.int i] => match m[k]? with
      | some (.lst xs) => if xs.length ≤ big then match L2.ixN xs.length i with
        | some j => match xs[j]? with
          | some y => .ok y (m.set k (.lst (xs.eraseIdx j)))
          | none => .bad
        | none => .bad
        else .bad
      | _ => .bad
    | .get2, [y, d] => match dictAt m k y with
      | some o => .ok (o.getD d) m
      | none => .bad
    | _, _ => .bad
  | _ => .bad
def isiV (d : D) (t : Ty) (m : Mem) : Option Bool :=
  match d with
  | .non => some false
  | .bl _ => some (decide (t = .int ∨ t = .bool))
  | .int _ => some (decide (t = .int))
  | .str _ => some (decide (t = .str))
  | .tup _ => some (decide (t = .tuple))
  | .ref k => match m[k]? with
    | some (.lst _) => some (decide (t = .list))
    | _ => none
  | _ => none

/-! ### what is walked -/
inductive Src where
  | lst (k : Nat) | fix (xs : List D) | scr (ns : List Int)
inductive It where
  | src (s : Src) | rng (lo : Int) (n : Nat) | rngD (hi : Int) (n : Nat) | en (s : Src) | zip (a b : Src) | items (k : Nat)
def srcOf (m : Mem) : D → Option Src
  | .tup xs => some (.fix xs)
  | .scr ns => some (.scr ns)
  | .ref k => (listAt m k).map fun _ => .lst k
  | _ => none
def Src.all (s : Src) (m : Mem) : Option (List D) :=
  match s with
  | .lst k => listAt m k
  | .fix xs => some xs
  | .scr ns => some (ns.map .int)
/-- the i-th item: none: bad, some none: the end -/
def It.nth (it : It) (i : Nat) (m : Mem) : Option (Option D) :=
  match it with
  | .src s => (s.all m).map fun xs => xs[i]?
  | .rng lo n => some (if i < n then some (.int (lo + i)) else none)
  | .rngD hi n => some (if i < n then some (.int (hi - i)) else none)
  | .en s => (s.all m).map fun xs => xs[i]?.map fun d => .tup [.int i, d]
  | .zip a b => (a.all m).bind fun xs => (b.all m).map fun ys => xs[i]?.bind fun x => ys[i]?.map fun y => .tup [x, y]
  | .items k => match m[k]? with
    | some (.dK true kvs) => some (kvs[i]?.map fun kv => .tup [keyD kv.1, kv.2])
    | some (.dT true kvs) => some (kvs[i]?.map fun kv => .tup [.tup (kv.1.map keyD), kv.2])
    | _ => none
@[irreducible] def lim62 (i : Int) : Bool := decide (-(2 ^ 62) ≤ i ∧ i < 2 ^ 62)
def setLk (m : Mem) (k : Nat) (l : Bool) : Mem :=
  match m[k]? with
  | some (.dK _ kvs) => m.set k (.dK l kvs)
  | some (.dT _ kvs) => m.set k (.dT l kvs)
  | _ => m
/-- the iterator, the store while it runs -/
def mkIt (ik : IK) (ds : List D) (m : Mem) : Option (It × Mem) :=
  match ik, ds with
  | .any, [d] => (srcOf m d).map fun s => (.src s, m)
  | .rng, [.int n] => if lim62 n then some (.rng 0 n.toNat, m) else none
  | .rng, [.int a, .int b] => if lim62 a && lim62 b then some (.rng a (b - a).toNat, m) else none
  | .rng, [.int a, .int b, .int c] => if lim62 a && lim62 b && decide (c = -1) then some (.rngD a (a - b).toNat, m) else none
  | .enum, [d] => match srcOf m d with
    | some (.lst k) => some (.en (.lst k), m)
    | some (.fix xs) => some (.en (.fix xs), m)
    | _ => none
  | .zip, [d, e] => match srcOf m d, srcOf m e with
    | some (.lst k), some (.lst j) => some (.zip (.lst k) (.lst j), m)
    | some (.fix xs), some (.fix ys) => some (.zip (.fix xs) (.fix ys), m)
    | _, _ => none
  | .items, [.ref k] => match m[k]? with
    | some (.dK false _) => some (.items k, setLk m k true)
    | some (.dT false _) => some (.items k, setLk m k true)
    | _ => none
  | _, _ => none
/-- behind the loop -/
def endIt (it : It) (m : Mem) : Mem :=
  match it with
  | .items k => setLk m k false
  | _ => m

/-! ### targets of names -/
mutual
def asgP : P → D → Sl → Option Sl
  | .name i, d, r => some (r.set i (some d))
  | .tup ps, .tup ds, r => asgPs ps ds r
  | .tup _, _, _ => none
def asgPs : List P → List D → Sl → Option Sl
  | [], [], r => some r
  | p :: ps, d :: ds, r => (asgP p d r).bind fun r' => asgPs ps ds r'
  | _, _, _ => none
end
def wipeS (r : Sl) : List Nat → Sl
  | [] => r
  | v :: vs => (wipeS r vs).set v none
mutual
def slotsP : P → List Nat
  | .name i => [i]
  | .tup ps => slotsPs ps
def slotsPs : List P → List Nat
  | [] => []
  | p :: ps => slotsP p ++ slotsPs ps
end

/-! ### loops: by fuel -/
@[irreducible] def FU : Nat := 1000000000
/-- a comprehension's loop; turn: the item's value, or none where the tests drop it -/
def lcLoop (it : It) (turn : D → Mem → R (Option D)) (k : Nat) : Nat → Nat → Mem → R Unit
  | 0, _, _ => .bad
  | n + 1, i, m => match it.nth i m with
    | none => .bad
    | some none => .ok () m
    | some (some x) => (turn x m).bind fun o m1 =>
      match o with
      | none => lcLoop it turn k n (i + 1) m1
      | some d => match m1[k]? with
        | some (.lst acc) => if acc.length < big then lcLoop it turn k n (i + 1) (m1.set k (.lst (acc ++ [d]))) else .bad
        | _ => .bad
def dcPut (k : Nat) (key v : D) (m : Mem) : Option Mem :=
  match m[k]? with
  | some (.dK false kvs) => (keyOf key).bind fun q => if kvs.length < big then some (m.set k (.dK false (putK kvs q v))) else none
  | some (.dT false kvs) => (keysOf key).bind fun q => if kvs.length < big then some (m.set k (.dT false (putK kvs q v))) else none
  | _ => none
def dcLoop (it : It) (turn : D → Mem → R (Option (D × D))) (k : Nat) : Nat → Nat → Mem → R Unit
  | 0, _, _ => .bad
  | n + 1, i, m => match it.nth i m with
    | none => .bad
    | some none => .ok () m
    | some (some x) => (turn x m).bind fun o m1 =>
      match o with
      | none => dcLoop it turn k n (i + 1) m1
      | some (a, b) => match dcPut k a b m1 with
        | some m2 => dcLoop it turn k n (i + 1) m2
        | none => .bad
def forLoop (it : It) (p : P) (body : Sl → Mem → R (Fl × Sl)) : Nat → Nat → Sl → Mem → R (Fl × Sl)
  | 0, _, _, _ => .bad
  | n + 1, i, r, m => match it.nth i m with
    | none => .bad
    | some none => .ok (.nx, r) m
    | some (some x) => match asgP p x r with
      | none => .bad
      | some r1 => (body r1 m).bind fun q m1 =>
        match q.1 with
        | .nx => forLoop it p body n (i + 1) q.2 m1
        | .ct => forLoop it p body n (i + 1) q.2 m1
        | .bk => .ok (.nx, q.2) m1
        | .rt d => .ok (.rt d, q.2) m1
        | .ex c fs => .ok (.ex c fs, q.2) m1
def whlLoop (c : Sl → Mem → R Bool) (body : Sl → Mem → R (Fl × Sl)) : Nat → Sl → Mem → R (Fl × Sl)
  | 0, _, _ => .bad
  | n + 1, r, m => (c r m).sb r fun b m0 =>
    if b = true then (body r m0).bind fun q m1 =>
      match q.1 with
      | .nx => whlLoop c body n q.2 m1
      | .ct => whlLoop c body n q.2 m1
      | .bk => .ok (.nx, q.2) m1
      | .rt d => .ok (.rt d, q.2) m1
      | .ex c fs => .ok (.ex c fs, q.2) m1
    else .ok (.nx, r) m0

/-- a bound of a slice: none or one -/
def optI : List D → Option (Option Int)
  | [] => some none
  | [.int i] => some (some i)
  | _ => none
/-- the tests of a comprehension: none or one -/
def condB : List D → Option Bool
  | [] => some true
  | [.bl b] => some b
  | _ => none

/-- list(zip(x, y)) of two tuples -/
def lzV (x y : D) (m : Mem) : R D :=
  match x, y with
  | .tup xs, .tup ys => if xs.length ≤ 1000 then .ok (.ref m.length) (m ++ [.lst (List.zipWith (fun a b => .tup [a, b]) xs ys)]) else .bad
  | _, _ => .bad

/-! ### the evaluator -/
mutual
def evE (cx : Cx) : E → Sl → Mem → R D
  | .var i, r, m => R.of m (r[i]?.bind id)
  | .int i, _, m => .ok (.int i) m
  | .bl b, _, m => .ok (.bl b) m
  | .non, _, m => .ok .non m
  | .str s, _, m => .ok (.str s) m
  | .gint _ i, _, m => .ok (.int i) m
  | .bin op a b, r, m => (evE cx a r m).bind fun x m1 => (evE cx b r m1).bind fun y m2 => binV op x y m2
  | .neg a, r, m => (evE cx a r m).bind fun x m1 => R.of m1 ((intOf x).map fun i => .int (-i))
  | .not a, r, m => (evE cx a r m).bind fun x m1 => R.of m1 ((boolOf x).map fun b => .bl (!b))
  | .cmp op a b, r, m => (evE cx a r m).bind fun x m1 => (evE cx b r m1).bind fun y m2 => R.of m2 ((cmpV op x y m2).map .bl)
  | .cmp2 op op2 a b c, r, m => (evE cx a r m).bind fun x m1 => (evE cx b r m1).bind fun y m2 =>
      match cmpV op x y m2 with
      | none => .bad
      | some true => (evE cx c r m2).bind fun z m3 => R.of m3 ((cmpV op2 y z m3).map .bl)
      | some false => .ok (.bl false) m2
  | .and a b, r, m => (evE cx a r m).bind fun x m1 =>
      match boolOf x with
      | none => .bad
      | some true => evE cx b r m1
      | some false => .ok (.bl false) m1
  | .or a b, r, m => (evE cx a r m).bind fun x m1 =>
      match boolOf x with
      | none => .bad
      | some true => .ok (.bl true) m1
      | some false => evE cx b r m1
  | .ite c a b, r, m => (evE cx c r m).bind fun x m1 =>
      match boolOf x with
      | none => .bad
      | some true => evE cx a r m1
      | some false => evE cx b r m1
  | .tup es, r, m => (evL cx es r m).bind fun ds m1 => if ds.length ≤ big then .ok (.tup ds) m1 else .bad
  | .lst es, r, m => (evL cx es r m).bind fun ds m1 => if ds.length ≤ big then .ok (.ref m1.length) (m1 ++ [.lst ds]) else .bad
  | .idx a i, r, m => (evE cx a r m).bind fun x m1 => (evE cx i r m1).bind fun y m2 => R.of m2 (idxV x y m2)
  | .slc a lo hi, r, m => (evE cx a r m).bind fun x m1 => (evL cx lo r m1).bind fun ls m2 => (R.of m2 (optI ls)).bind fun l m2 => (evL cx hi r m2).bind fun hs m3 => (R.of m3 (optI hs)).bind fun h m3 => slcV x l h m3
  | .fld a f, r, m => (evE cx a r m).bind fun x m1 => R.of m1 (fldV x f m1)
  | .call f es, r, m => (evL cx es r m).bind fun ds m1 => cx.call f ds m1
  | .meth n o es, r, m => (evE cx o r m).bind fun x m1 =>
      match (clsOf x m1).bind fun c => cx.meth c n with
      | none => .bad
      | some f => (evL cx es r m1).bind fun ds m2 => cx.call f (x :: ds) m2
  | .make c es, r, m =>
      match cx.init c with
      | none => .bad
      | some f => (evL cx es r m).bind fun ds m1 => (cx.call f (.ref m1.length :: ds) (m1 ++ [.ins c []])).bind fun v m2 =>
        match v with
        | .non => .ok (.ref m1.length) m2
        | _ => .bad
  | .blt b es, r, m => (evL cx es r m).bind fun ds m1 => bltV b ds m1
  | .bm b o es, r, m => (evE cx o r m).bind fun x m1 => if rcv b x m1 = true then (evL cx es r m1).bind fun ds m2 => bmV b x ds m2 else .bad
  | .isi a t, r, m => (evE cx a r m).bind fun x m1 => R.of m1 ((isiV x t m1).map .bl)
  | .lc own ik it p cond elt, r, m => (evL cx it r m).bind fun ds m1 =>
      match mkIt ik ds m1 with
      | none => .bad
      | some (J, m2) => (lcLoop J (fun x m => match asgP p x (wipeS r own) with
          | none => .bad
          | some r1 => ((evL cx cond r1 m).bind fun cs m2 => (R.of m2 (condB cs)).bind fun b m3 =>
            if b = true then (evE cx elt r1 m3).bind fun d m4 => .ok (some d) m4 else .ok none m3).calm) m2.length FU 0 (m2 ++ [.lst []])).bind fun _ m5 => .ok (.ref m2.length) (endIt J m5)
  | .dc tk own ik it p cond ke ve, r, m => (evL cx it r m).bind fun ds m1 =>
      match mkIt ik ds m1 with
      | none => .bad
      | some (J, m2) => (dcLoop J (fun x m => match asgP p x (wipeS r own) with
          | none => .bad
          | some r1 => ((evL cx cond r1 m).bind fun cs m2 => (R.of m2 (condB cs)).bind fun b m3 =>
            if b = true then (evE cx ke r1 m3).bind fun x m4 => (evE cx ve r1 m4).bind fun y m5 => .ok (some (x, y)) m5 else .ok none m3).calm) m2.length FU 0 (m2 ++ [if tk then .dT false [] else .dK false []])).bind fun _ m5 => .ok (.ref m2.length) (endIt J m5)
  | .dnew tk, _, m => .ok (.ref m.length) (m ++ [if tk then .dT false [] else .dK false []])
  | .lz a b, r, m => (evE cx a r m).bind fun x m1 => (evE cx b r m1).bind fun y m2 => lzV x y m2
def evL (cx : Cx) : List E → Sl → Mem → R (List D)
  | [], _, m => .ok [] m
  | e :: es, r, m => (evE cx e r m).bind fun x m1 => (evL cx es r m1).bind fun xs m2 => .ok (x :: xs) m2
end

def setFld (o : D) (f : Nat) (v : D) (m : Mem) : Option Mem :=
  match o with
  | .ref k => match m[k]? with
    | some (.ins c fs) => if fs.length < 100 then some (m.set k (.ins c (putA f v fs))) else none
    | _ => none
  | _ => none
def setSub (o i v : D) (m : Mem) : Option Mem :=
  match o with
  | .ref k => match m[k]? with
    | some (.lst xs) => match i with
      | .int i => (L2.ixN xs.length i).map fun j => m.set k (.lst (xs.set j v))
      | _ => none
    | _ => dcPut k i v m
  | _ => none
mutual
def asgT (cx : Cx) : T → D → Sl → Mem → R Sl
  | .pat p, d, r, m => R.of m (asgP p d r)
  | .fld o f, d, r, m => (evE cx o r m).bind fun x m1 => match setFld x f d m1 with | some m2 => .ok r m2 | none => .bad
  | .sub o i, d, r, m => (evE cx o r m).bind fun x m1 => (evE cx i r m1).bind fun y m2 => match setSub x y d m2 with | some m3 => .ok r m3 | none => .bad
  | .tup ts, d, r, m => match d with
    | .tup ds => asgTs cx ts ds r m
    | _ => .bad
def asgTs (cx : Cx) : List T → List D → Sl → Mem → R Sl
  | [], ds, r, m => match ds with | [] => .ok r m | _ => .bad
  | t :: ts, ds, r, m => match ds with
    | d :: ds => (asgT cx t d r m).bind fun r1 m1 => asgTs cx ts ds r1 m1
    | [] => .bad
end
def setMany (r : Sl) : List Nat → List D → Option Sl
  | [], [] => some r
  | i :: is, d :: ds => setMany (r.set i (some d)) is ds
  | _, _ => none
def tstE (cx : Cx) (c : E) (r : Sl) (m : Mem) : R Bool := (evE cx c r m).bind fun x m1 => R.of m1 (boolOf x)
mutual
def evS (cx : Cx) : S → Sl → Mem → R (Fl × Sl)
  | .nev, _, _ => .bad
  | .pas, r, m => .ok (.nx, r) m
  | .ex e, r, m => (evE cx e r m).sb r fun _ m1 => .ok (.nx, r) m1
  | .asg t e, r, m => (evE cx e r m).sb r fun d m1 => (asgT cx t d r m1).calm.bind fun r1 m2 => .ok (.nx, r1) m2
  | .par is es, r, m => (evL cx es r m).sb r fun ds m1 => R.of m1 ((setMany r is ds).map fun r1 => (Fl.nx, r1))
  | .aug i op e, r, m => match r[i]?.bind id with
    | none => .bad
    | some x => (evE cx e r m).sb r fun y m1 => match x, y with
      | .int _, .int _ => (binV op x y m1).bind fun z m2 => .ok (.nx, r.set i (some z)) m2
      | _, _ => .bad
  | .ifS c a b, r, m => (tstE cx c r m).sb r fun t m1 => if t = true then evSs cx a r m1 else evSs cx b r m1
  | .forS ik it p body, r, m => (evL cx it r m).sb r fun ds m1 =>
      match mkIt ik ds m1 with
      | none => .bad
      | some (J, m2) => (forLoop J p (fun r m => evSs cx body r m) FU 0 r m2).bind fun q m3 => match q.1 with
        | .ex c fs => .ok (.ex c fs, q.2) m3
        | .nx => .ok (.nx, q.2) (endIt J m3)
        | .bk => .ok (.bk, q.2) (endIt J m3)
        | .ct => .ok (.ct, q.2) (endIt J m3)
        | .rt d => .ok (.rt d, q.2) (endIt J m3)
  | .whl c body, r, m => whlLoop (fun r m => tstE cx c r m) (fun r m => evSs cx body r m) FU r m
  | .ret e, r, m => (evE cx e r m).sb r fun d m1 => .ok (.rt d, r) m1
  | .brk, r, m => .ok (.bk, r) m
  | .cnt, r, m => .ok (.ct, r) m
  | .rse c, r, m => .ok (.ex c [], r) m
  | .tryR body x b, r, m => (evSs cx body r m).bind fun q m1 => match q.1 with
    | .ex c fs => if c = x then .ok (.rt (.bl b), q.2) m1 else .bad
    | .nx => .ok (.nx, q.2) m1
    | .bk => .ok (.bk, q.2) m1
    | .ct => .ok (.ct, q.2) m1
    | .rt d => .ok (.rt d, q.2) m1
def evSs (cx : Cx) : List S → Sl → Mem → R (Fl × Sl)
  | [], r, m => .ok (.nx, r) m
  | s :: ss, r, m => (evS cx s r m).bind fun q m1 => match q.1 with
    | .nx => evSs cx ss q.2 m1
    | .bk => .ok (.bk, q.2) m1
    | .ct => .ok (.ct, q.2) m1
    | .rt d => .ok (.rt d, q.2) m1
    | .ex c fs => .ok (.ex c fs, q.2) m1
end

/-- a def: how many parameters, how many slots, its body -/
structure Fn where
  np : Nat
  ns : Nat
  body : List S
structure Prog where
  fns : Nat → Option Fn
  meth : Nat → Nat → Option Nat
  init : Nat → Option Nat
def startS (n : Nat) (ds : List D) : Sl := ds.map some ++ List.replicate (n - ds.length) none
def finish (q : Fl × Sl) (m : Mem) : R D :=
  match q.1 with
  | .nx => .ok .non m
  | .rt d => .ok d m
  | .ex c fs => .exn c fs m
  | _ => .bad
/-- a call, to a depth -/
def callN (G : Prog) : Nat → Nat → List D → Mem → R D
  | 0, _, _, _ => .bad
  | n + 1, f, ds, m => match G.fns f with
    | none => .bad
    | some F => if ds.length = F.np then (evSs ⟨callN G n, G.meth, G.init⟩ F.body (startS F.ns ds) m).bind finish else .bad
end HR

set_option linter.all false
set_option maxRecDepth 100000
/-! HR, part 2: how values and stores lie in the abstract heap. -/
namespace HR
open PySem L2

/-- the names of the program: defs, classes, attributes, methods by number -/
structure Tab where
  fns : List (Nat × Str)
  cls : List (Nat × Str)
  flds : List (Nat × Str)
  mts : List (Nat × Str)
  exs : List (Nat × Str)
theorem lk_mem {l : List (Nat × Str)} {f : Nat} {n : Str} (h : l.lookup f = some n) : (f, n) ∈ l := by
  induction l with
  | nil => cases h
  | cons p r ih =>
    obtain ⟨k, v⟩ := p
    by_cases e : f = k
    · subst e
      simp [List.lookup] at h
      subst h; exact List.mem_cons_self
    · have e2 : (f == k) = false := by simpa using e
      simp [List.lookup, e2] at h
      exact List.mem_cons_of_mem _ (ih h)
theorem lk_mem2 {l : List (Nat × Str)} {f : Nat} {n : Str} (h : l.lookup f = some n) : n ∈ l.map (·.2) := List.mem_map.mpr ⟨_, lk_mem h, rfl⟩
theorem lk_inj {l : List (Nat × Str)} (nd : (l.map (·.2)).Nodup) {f g : Nat} {n : Str} (h : l.lookup f = some n) (h2 : l.lookup g = some n) : f = g := by
  induction l with
  | nil => cases h
  | cons p r ih =>
    obtain ⟨k, v⟩ := p
    rw [List.map_cons, List.nodup_cons] at nd
    by_cases e : f = k
    · by_cases e2 : g = k
      · rw [e, e2]
      · have e3 : (g == k) = false := by simpa using e2
        subst e
        simp [List.lookup] at h
        simp [List.lookup, e3] at h2
        subst h
        exact absurd (lk_mem2 h2) nd.1
    · have e3 : (f == k) = false := by simpa using e
      simp [List.lookup, e3] at h
      by_cases e2 : g = k
      · subst e2
        simp [List.lookup] at h2
        subst h2
        exact absurd (lk_mem2 h) nd.1
      · have e4 : (g == k) = false := by simpa using e2
        simp [List.lookup, e4] at h2
        exact ih nd.2 h h2
structure Ct where
  K : PySem.W.Frag
  tb : Tab
  cl : Nat → Addr

/-- the script: a list that is only read -/
def SqS (K : PySem.W.Frag) (H : Hp) (a : Addr) (xs : List V) : Prop :=
  (∃ o, H a = some (.frz o (.lst xs))) ∨
    ∃ (o : Obj) (its : Array Value) (n : Nat), K.lookup a = some o ∧ o.cls = .type "list" ∧ o.dict = none ∧ o.data = .seq its n ∧ its.size ≤ sizeLine ∧ Vals xs its.toList
theorem SqS.sq {K : PySem.W.Frag} {H : Hp} {a : Addr} {xs : List V} (h : SqS K H a xs) : SqL K H a xs := by
  rcases h with ⟨o, h⟩ | h
  · exact .inl (.inr ⟨o, h⟩)
  · exact .inr h

mutual
inductive RV (K : PySem.W.Frag) (th : List Addr) (H : Hp) : V → D → Prop
  | non : RV K th H .non .non
  | bl (b : Bool) : RV K th H (.bl b) (.bl b)
  | int (i : Int) : RV K th H (.int i) (.int i)
  | str (x : Str) : RV K th H (.str x) (.str x)
  | byt (b : Array UInt8) : RV K th H (.byt b) (.byt b)
  | ref {k : Nat} {a : Addr} : th[k]? = some a → RV K th H (.ref a) (.ref k)
  | scr {a : Addr} {ns : List Int} : SqS K H a (ns.map V.int) → RV K th H (.ref a) (.scr ns)
  | tup {a : Addr} {xs : List V} {ds : List D} : H a = some (.tup xs) → RVs K th H xs ds → RV K th H (.ref a) (.tup ds)
inductive RVs (K : PySem.W.Frag) (th : List Addr) (H : Hp) : List V → List D → Prop
  | nil : RVs K th H [] []
  | cons {v : V} {vs : List V} {d : D} {ds : List D} : RV K th H v d → RVs K th H vs ds → RVs K th H (v :: vs) (d :: ds)
end

/-- what stays: tuples, the script, what is locked -/
structure Keep (K : PySem.W.Frag) (H H' : Hp) : Prop where
  tup : ∀ a xs, H a = some (.tup xs) → H' a = some (.tup xs)
  scr : ∀ a xs, SqS K H a xs → SqS K H' a xs
  frz : ∀ a o u, H a = some (.frz o u) → H' a = some (.frz o u)
structure KeepV (K : PySem.W.Frag) (H H' : Hp) : Prop where
  tup : ∀ a xs, H a = some (.tup xs) → H' a = some (.tup xs)
  scr : ∀ a xs, SqS K H a xs → SqS K H' a xs
theorem Keep.v {K : PySem.W.Frag} {H H' : Hp} (k : Keep K H H') : KeepV K H H' := ⟨k.tup, k.scr⟩
theorem Keep.refl (K : PySem.W.Frag) (H : Hp) : Keep K H H := ⟨fun _ _ h => h, fun _ _ h => h, fun _ _ _ h => h⟩
theorem Keep.trans {K : PySem.W.Frag} {H H1 H2 : Hp} (a : Keep K H H1) (b : Keep K H1 H2) : Keep K H H2 := ⟨fun x y h => b.tup x y (a.tup x y h), fun x y h => b.scr x y (a.scr x y h), fun x y z h => b.frz x y z (a.frz x y z h)⟩
theorem keep_by {K : PySem.W.Frag} {H H' : Hp} (h : ∀ a u, H a = some u → ¬ Mut (some u) → H' a = some u) : Keep K H H' := by
  refine ⟨fun a xs q => h _ _ q fun z => z, fun a xs q => ?_, fun a o u q => h _ _ q fun z => z⟩
  rcases q with ⟨ob, q⟩ | q
  · exact .inl ⟨ob, h _ _ q fun z => z⟩
  · exact .inr q
theorem keep_upd {K : PySem.W.Frag} {H : Hp} {p : Addr} {o : HO} (h : Mut (H p) ∨ H p = none) : Keep K H (upd H p o) := keep_by fun a u e nm => by
  rw [upd_ne fun z => ?_]
  · exact e
  · subst z
    rcases h with h | h
    · rw [e] at h; exact nm h
    · rw [e] at h; cases h
/-- locked, and free again -/
theorem keep_free {K : PySem.W.Frag} {H H3 : Hp} {p : Addr} {ob : Obj} {u : HO} (h : H p = some u) (mu : Mut (some u)) (k : Keep K (upd H p (.frz ob u)) H3) : Keep K H (upd H3 p u) := by
  have k1 : Keep K H (upd H p (.frz ob u)) := keep_upd (.inl (by rw [h]; exact mu))
  have k2 := k1.trans k
  have ne : ∀ a w, H a = some w → ¬ Mut (some w) → a ≠ p := fun a w e nm z => by
    subst z
    rw [h] at e; cases e
    exact nm mu
  refine ⟨fun a xs q => ?_, fun a xs q => ?_, fun a o w q => ?_⟩
  · rw [upd_ne (ne _ _ q fun z => z)]; exact k2.tup _ _ q
  · rcases q with ⟨o, q⟩ | q
    · exact .inl ⟨o, by rw [upd_ne (ne _ _ q fun z => z)]; exact k2.frz _ _ _ q⟩
    · exact .inr q
  · rw [upd_ne (ne _ _ q fun z => z)]; exact k2.frz _ _ _ q
theorem keep_same {K : PySem.W.Frag} {H H' : Hp} (h : ∀ b o, H b = some o → H' b = some o) : Keep K H H' := keep_by fun a u e _ => h a u e

def Pre (a b : List Addr) : Prop := ∀ (k : Nat) (x : Addr), a[k]? = some x → b[k]? = some x
theorem Pre.refl (a : List Addr) : Pre a a := fun _ _ h => h
theorem Pre.trans {a b c : List Addr} (x : Pre a b) (y : Pre b c) : Pre a c := fun k z h => y k z (x k z h)
theorem Pre.snoc (a : List Addr) (p : Addr) : Pre a (a ++ [p]) := fun k x h => by
  have hk : k < a.length := (List.getElem?_eq_some_iff.mp h).1
  rw [List.getElem?_append_left hk]; exact h

section
variable {K : PySem.W.Frag} {th th' : List Addr} {H H' : Hp}
mutual
theorem RV.monoV (p : Pre th th') (k : KeepV K H H') : ∀ {v : V} {d : D}, RV K th H v d → RV K th' H' v d
  | _, _, .non => .non
  | _, _, .bl b => .bl b
  | _, _, .int i => .int i
  | _, _, .str x => .str x
  | _, _, .byt x => .byt x
  | _, _, .ref h => .ref (p _ _ h)
  | _, _, .scr h => .scr (k.scr _ _ h)
  | _, _, .tup h r => .tup (k.tup _ _ h) (RVs.monoV p k r)
theorem RVs.monoV (p : Pre th th') (k : KeepV K H H') : ∀ {vs : List V} {ds : List D}, RVs K th H vs ds → RVs K th' H' vs ds
  | _, _, .nil => .nil
  | _, _, .cons h r => .cons (RV.monoV p k h) (RVs.monoV p k r)
end
theorem RV.mono (p : Pre th th') (k : Keep K H H') {v : V} {d : D} (h : RV K th H v d) : RV K th' H' v d := h.monoV p k.v
theorem RVs.mono (p : Pre th th') (k : Keep K H H') {vs : List V} {ds : List D} (h : RVs K th H vs ds) : RVs K th' H' vs ds := h.monoV p k.v
theorem RVs.length : ∀ {vs : List V} {ds : List D}, RVs K th H vs ds → vs.length = ds.length
  | _, _, .nil => rfl
  | _, _, .cons _ r => by simp [RVs.length r]
theorem RVs.get : ∀ {vs : List V} {ds : List D} {i : Nat} {d : D}, RVs K th H vs ds → ds[i]? = some d → ∃ v, vs[i]? = some v ∧ RV K th H v d
  | _, _, _, _, .nil, e => by simp at e
  | _, _, 0, _, .cons h _, e => by simp at e; subst e; exact ⟨_, rfl, h⟩
  | _, _, i + 1, d, .cons _ r, e => by
    obtain ⟨v, h1, h2⟩ := RVs.get (i := i) (d := d) r (by simpa using e)
    exact ⟨v, by simpa using h1, h2⟩
theorem RVs.get' {vs : List V} {ds : List D} {i : Nat} {v : V} (r : RVs K th H vs ds) (e : vs[i]? = some v) : ∃ d, ds[i]? = some d ∧ RV K th H v d := by
  have hi : i < vs.length := (List.getElem?_eq_some_iff.mp e).1
  have hd : i < ds.length := by rw [← r.length]; exact hi
  obtain ⟨v', h1, h2⟩ := r.get (i := i) (d := ds[i]) (List.getElem?_eq_getElem hd)
  rw [e] at h1; cases h1
  exact ⟨_, List.getElem?_eq_getElem hd, h2⟩
theorem RVs.none_of {vs : List V} {ds : List D} {i : Nat} (r : RVs K th H vs ds) (e : ds[i]? = none) : vs[i]? = none := by
  have h := r.length
  rw [List.getElem?_eq_none_iff] at e ⊢
  omega
theorem RVs.append : ∀ {vs ws : List V} {ds es : List D}, RVs K th H vs ds → RVs K th H ws es → RVs K th H (vs ++ ws) (ds ++ es)
  | _, _, _, _, .nil, r => r
  | _, _, _, _, .cons h t, r => .cons h (RVs.append t r)
theorem RVs.set {v : V} {d : D} (q : RV K th H v d) : ∀ {vs : List V} {ds : List D} (i : Nat), RVs K th H vs ds → RVs K th H (vs.set i v) (ds.set i d)
  | _, _, _, .nil => .nil
  | _, _, 0, .cons _ t => .cons q t
  | _, _, i + 1, .cons h t => .cons h (RVs.set q i t)
theorem RVs.take : ∀ {vs : List V} {ds : List D} (n : Nat), RVs K th H vs ds → RVs K th H (vs.take n) (ds.take n)
  | _, _, 0, _ => .nil
  | _, _, _ + 1, .nil => .nil
  | _, _, n + 1, .cons h t => .cons h (RVs.take n t)
theorem RVs.drop : ∀ {vs : List V} {ds : List D} (n : Nat), RVs K th H vs ds → RVs K th H (vs.drop n) (ds.drop n)
  | _, _, 0, r => r
  | _, _, _ + 1, .nil => .nil
  | _, _, n + 1, .cons _ t => RVs.drop n t
theorem RVs.dropLast : ∀ {vs : List V} {ds : List D}, RVs K th H vs ds → RVs K th H vs.dropLast ds.dropLast
  | _, _, .nil => .nil
  | _, _, .cons h .nil => .nil
  | _, _, .cons h (.cons h2 t) => .cons h (RVs.dropLast (.cons h2 t))
theorem RVs.eraseIdx : ∀ {vs : List V} {ds : List D} (i : Nat), RVs K th H vs ds → RVs K th H (vs.eraseIdx i) (ds.eraseIdx i)
  | _, _, _, .nil => .nil
  | _, _, 0, .cons _ t => t
  | _, _, i + 1, .cons h t => .cons h (RVs.eraseIdx i t)
theorem RVs.rep {vs : List V} {ds : List D} (r : RVs K th H vs ds) : ∀ n : Nat, RVs K th H (List.replicate n vs).flatten (List.replicate n ds).flatten
  | 0 => .nil
  | n + 1 => by
    rw [List.replicate_succ, List.replicate_succ, List.flatten_cons, List.flatten_cons]
    exact r.append (RVs.rep r n)
theorem RVs.ints : ∀ ns : List Int, RVs K th H (ns.map V.int) (ns.map D.int)
  | [] => .nil
  | n :: ns => .cons (.int n) (RVs.ints ns)
theorem RVs.intsOf : ∀ {vs : List V} {ds : List D} {ns : List Int}, RVs K th H vs ds → intsOf ds = some ns → vs = ns.map V.int
  | _, _, ns, .nil, e => by
    simp [HR.intsOf] at e; subst e; rfl
  | _, _, ns, .cons (d := d) (ds := ds) h t, e => by
    unfold HR.intsOf at e
    rw [List.mapM_cons] at e
    cases d with
    | int i =>
      cases h
      cases q : ds.mapM intOf with
      | none => simp [intOf, q] at e
      | some ms =>
        simp [intOf, q] at e
        subst e
        rw [RVs.intsOf t q]; rfl
    | _ => simp [intOf] at e
theorem RVs.boolsOf : ∀ {vs : List V} {ds : List D} {ns : List Bool}, RVs K th H vs ds → boolsOf ds = some ns → vs = ns.map V.bl
  | _, _, ns, .nil, e => by
    simp [HR.boolsOf] at e; subst e; rfl
  | _, _, ns, .cons (d := d) (ds := ds) h t, e => by
    unfold HR.boolsOf at e
    rw [List.mapM_cons] at e
    cases d with
    | bl i =>
      cases h
      cases q : ds.mapM boolOf with
      | none => simp [boolOf, q] at e
      | some ms =>
        simp [boolOf, q] at e
        subst e
        rw [RVs.boolsOf t q]; rfl
    | _ => simp [boolOf] at e
end

/-! ### pairs of dicts, fields -/
def KR {κ : Type} (K : PySem.W.Frag) (th : List Addr) (H : Hp) : List (κ × V) → List (κ × D) → Prop := Paired fun p q => p.1 = q.1 ∧ RV K th H p.2 q.2
def FR (tb : Tab) (K : PySem.W.Frag) (th : List Addr) (H : Hp) : List (Str × V) → List (Nat × D) → Prop := Paired fun p q => tb.flds.lookup q.1 = some p.1 ∧ RV K th H p.2 q.2
section
variable {K : PySem.W.Frag} {th th' : List Addr} {H H' : Hp} {κ : Type}
theorem KR.monoV {a : List (κ × V)} {b : List (κ × D)} (p : Pre th th') (k : KeepV K H H') (r : KR K th H a b) : KR K th' H' a b := Paired.mapP r fun _ _ z => ⟨z.1, z.2.monoV p k⟩
theorem FR.monoV {tb : Tab} {a : List (Str × V)} {b : List (Nat × D)} (p : Pre th th') (k : KeepV K H H') (r : FR tb K th H a b) : FR tb K th' H' a b := Paired.mapP r fun _ _ z => ⟨z.1, z.2.monoV p k⟩
theorem KR.mono {a : List (κ × V)} {b : List (κ × D)} (p : Pre th th') (k : Keep K H H') (r : KR K th H a b) : KR K th' H' a b := r.monoV p k.v
theorem FR.mono {tb : Tab} {a : List (Str × V)} {b : List (Nat × D)} (p : Pre th th') (k : Keep K H H') (r : FR tb K th H a b) : FR tb K th' H' a b := r.monoV p k.v
theorem KR.length {a : List (κ × V)} {b : List (κ × D)} (r : KR K th H a b) : a.length = b.length := Paired.length r
variable [DecidableEq κ]
theorem KR.get {k : κ} : ∀ {a : List (κ × V)} {b : List (κ × D)}, KR K th H a b → (valV a k = none ∧ getK b k = none) ∨ ∃ v d, valV a k = some v ∧ getK b k = some d ∧ RV K th H v d
  | _, _, .nil => .inl ⟨rfl, rfl⟩
  | p :: ps, q :: qs, .cons h t => by
    by_cases e : p.1 = k
    · refine .inr ⟨p.2, q.2, valV_pos e, ?_, h.2⟩
      have e2 : q.1 = k := by rw [← h.1]; exact e
      simp [getK, List.find?_cons, e2]
    · have e2 : ¬ q.1 = k := by rw [← h.1]; exact e
      have g : getK (q :: qs) k = getK qs k := by simp [getK, List.find?_cons, e2]
      rw [valV_neg e, g]
      exact KR.get t
theorem KR.anyk {k : κ} : ∀ {a : List (κ × V)} {b : List (κ × D)}, KR K th H a b → (a.any fun kv => decide (kv.1 = k)) = (b.any fun kv => decide (kv.1 = k))
  | _, _, .nil => rfl
  | p :: ps, q :: qs, .cons h t => by
    rw [List.any_cons, List.any_cons, h.1, KR.anyk t]
theorem KR.app : ∀ {a c : List (κ × V)} {b d : List (κ × D)}, KR K th H a b → KR K th H c d → KR K th H (a ++ c) (b ++ d)
  | _, _, _, _, .nil, r => r
  | _, _, _, _, .cons h t, r => .cons h (KR.app t r)
theorem KR.mapk {k : κ} {v : V} {d : D} (r : RV K th H v d) : ∀ {a : List (κ × V)} {b : List (κ × D)}, KR K th H a b →
    KR K th H (a.map fun kv => if kv.1 = k then (kv.1, v) else kv) (b.map fun kv => if kv.1 = k then (kv.1, d) else kv)
  | _, _, .nil => .nil
  | p :: ps, q :: qs, .cons h t => by
    rw [List.map_cons, List.map_cons]
    refine .cons ?_ (KR.mapk r t)
    by_cases e : p.1 = k
    · have e2 : q.1 = k := by rw [← h.1]; exact e
      rw [if_pos e, if_pos e2]; exact ⟨h.1, r⟩
    · have e2 : ¬ q.1 = k := by rw [← h.1]; exact e
      rw [if_neg e, if_neg e2]; exact h
theorem KR.put {k : κ} {v : V} {d : D} {a : List (κ × V)} {b : List (κ × D)} (h : KR K th H a b) (r : RV K th H v d) : KR K th H (L2.putK a k v) (HR.putK b k d) := by
  unfold L2.putK HR.putK
  rw [KR.anyk h]
  split
  · exact KR.mapk r h
  · exact KR.app h (.cons ⟨rfl, r⟩ .nil)
end
theorem nodup_inj {α : Type} {l : List α} (nd : l.Nodup) {i j : Nat} {x : α} (a : l[i]? = some x) (b : l[j]? = some x) : i = j := by
  obtain ⟨h1, e1⟩ := List.getElem?_eq_some_iff.mp a
  obtain ⟨h2, e2⟩ := List.getElem?_eq_some_iff.mp b
  exact (List.getElem_inj nd).mp (e1.trans e2.symm)
section
variable {tb : Tab} {K : PySem.W.Frag} {th : List Addr} {H : Hp}
theorem FR.get (nd : (tb.flds.map (·.2)).Nodup) {f : Nat} {n : Str} (hf : tb.flds.lookup f = some n) : ∀ {a : List (Str × V)} {b : List (Nat × D)} {d : D}, FR tb K th H a b → b.lookup f = some d → ∃ v, a.lookup n = some v ∧ RV K th H v d
  | _, _, d, .nil, e => by simp at e
  | p :: ps, q :: qs, d, .cons h t, e => by
    by_cases z : f = q.1
    · subst z
      have e2 : p.1 = n := by rw [h.1] at hf; exact Option.some.inj hf
      have e3 : (n == p.1) = true := by simp [e2]
      have : q.2 = d := by simpa [List.lookup] using e
      subst this
      exact ⟨p.2, by simp [List.lookup, e3], h.2⟩
    · have e2 : ¬ n = p.1 := fun y => z (lk_inj nd hf (by rw [y]; exact h.1))
      have e3 : (n == p.1) = false := by simpa using e2
      have e4 : (f == q.1) = false := by simpa using z
      obtain ⟨v, h1, h2⟩ := FR.get nd hf (d := d) t (by simpa [List.lookup, e4] using e)
      exact ⟨v, by simpa [List.lookup, e3] using h1, h2⟩
theorem FR.no (nd : (tb.flds.map (·.2)).Nodup) {n : Str} (hn : n ∉ tb.flds.map (·.2)) : ∀ {a : List (Str × V)} {b : List (Nat × D)}, FR tb K th H a b → a.lookup n = none
  | _, _, .nil => rfl
  | p :: ps, q :: qs, .cons h t => by
    have e2 : ¬ n = p.1 := fun y => hn (by rw [y]; exact lk_mem2 h.1)
    have e3 : (n == p.1) = false := by simpa using e2
    have := FR.no nd hn t
    simpa [List.lookup, e3] using this
theorem FR.put (nd : (tb.flds.map (·.2)).Nodup) {f : Nat} {n : Str} (hf : tb.flds.lookup f = some n) {v : V} {d : D} (r : RV K th H v d) : ∀ {a : List (Str × V)} {b : List (Nat × D)}, FR tb K th H a b → FR tb K th H (putF n v a) (putA f d b)
  | _, _, .nil => .cons ⟨hf, r⟩ .nil
  | (x, y) :: ps, (g, z) :: qs, .cons h t => by
    unfold putF putA
    by_cases e : g = f
    · subst e
      have e2 : x = n := by have := h.1; rw [hf] at this; exact (Option.some.inj this).symm
      rw [if_pos rfl, if_pos e2]
      exact .cons ⟨h.1, r⟩ t
    · have e2 : ¬ x = n := fun y => e (lk_inj nd h.1 (by rw [hf, ← y]))
      rw [if_neg e, if_neg e2]
      exact .cons h (FR.put nd hf r t)
theorem FR.length {a : List (Str × V)} {b : List (Nat × D)} (r : FR tb K th H a b) : a.length = b.length := Paired.length r
end

/-! ### objects, the store -/
def OR (C : Ct) (th : List Addr) (H : Hp) (a : Addr) : O → Prop
  | .lst ds => ∃ xs, H a = some (.lst xs) ∧ RVs C.K th H xs ds
  | .dK lk kvs => ∃ kv, (if lk = true then ∃ o, H a = some (.frz o (.dK kv)) else H a = some (.dK kv)) ∧ KR C.K th H kv kvs
  | .dT lk kvs => ∃ kv, (if lk = true then ∃ o, H a = some (.frz o (.dT kv)) else H a = some (.dT kv)) ∧ KR C.K th H kv kvs
  | .ins c fs => ∃ dx fv, H a = some (.ins (C.cl c) dx fv) ∧ FR C.tb C.K th H fv fs ∧ ∃ x, C.tb.cls.lookup c = some x
structure Sim (C : Ct) (th : List Addr) (H : Hp) (m : Mem) : Prop where
  len : th.length = m.length
  nd : th.Nodup
  at_ : ∀ (k : Nat) (o : O), m[k]? = some o → ∃ a, th[k]? = some a ∧ OR C th H a o
section
variable {C : Ct} {th th' : List Addr} {H H' : Hp} {m : Mem}
theorem OR.some_of {a : Addr} {o : O} (h : OR C th H a o) : ∃ u, H a = some u := by
  cases o with
  | lst ds => obtain ⟨xs, e, _⟩ := h; exact ⟨_, e⟩
  | dK lk kvs =>
    obtain ⟨kv, e, _⟩ := h
    cases lk
    · exact ⟨_, e⟩
    · obtain ⟨o, e⟩ := e; exact ⟨_, e⟩
  | dT lk kvs =>
    obtain ⟨kv, e, _⟩ := h
    cases lk
    · exact ⟨_, e⟩
    · obtain ⟨o, e⟩ := e; exact ⟨_, e⟩
  | ins c fs => obtain ⟨dx, fv, e, _⟩ := h; exact ⟨_, e⟩
/-- the same object, elsewhere more -/
theorem OR.monoV {a : Addr} {o : O} (p : Pre th th') (k : KeepV C.K H H') (e : H' a = H a) (h : OR C th H a o) : OR C th' H' a o := by
  cases o with
  | lst ds => obtain ⟨xs, q, r⟩ := h; exact ⟨xs, e.trans q, r.monoV p k⟩
  | dK lk kvs =>
    obtain ⟨kv, q, r⟩ := h
    refine ⟨kv, ?_, r.monoV p k⟩
    rw [e]; exact q
  | dT lk kvs =>
    obtain ⟨kv, q, r⟩ := h
    refine ⟨kv, ?_, r.monoV p k⟩
    rw [e]; exact q
  | ins c fs => obtain ⟨dx, fv, q, r, x⟩ := h; exact ⟨dx, fv, e.trans q, r.monoV p k, x⟩
theorem OR.mono {a : Addr} {o : O} (p : Pre th th') (k : Keep C.K H H') (e : H' a = H a) (h : OR C th H a o) : OR C th' H' a o := h.monoV p k.v e
theorem Sim.get (S : Sim C th H m) {k : Nat} {o : O} {a : Addr} (h : m[k]? = some o) (ha : th[k]? = some a) : OR C th H a o := by
  obtain ⟨b, h1, h2⟩ := S.at_ k o h
  rw [ha] at h1; cases h1; exact h2
theorem Sim.lt (S : Sim C th H m) {k : Nat} {a : Addr} (ha : th[k]? = some a) : ∃ o, m[k]? = some o := by
  have h := (List.getElem?_eq_some_iff.mp ha).1
  rw [S.len] at h
  exact ⟨m[k], List.getElem?_eq_getElem h⟩
theorem Sim.tracked (S : Sim C th H m) {k : Nat} {a : Addr} (ha : th[k]? = some a) : ∃ u, H a = some u := by
  obtain ⟨o, ho⟩ := S.lt ha
  exact (S.get ho ha).some_of
theorem Sim.fresh (S : Sim C th H m) {p : Addr} (hp : H p = none) : p ∉ th := fun hm => by
  obtain ⟨k, h⟩ := List.mem_iff_getElem?.mp hm
  obtain ⟨u, e⟩ := S.tracked h
  rw [hp] at e; cases e
/-- the heap has grown, all places as they were -/
theorem Sim.mono (S : Sim C th H m) (k : Keep C.K H H') (e : ∀ a ∈ th, H' a = H a) : Sim C th H' m :=
  ⟨S.len, S.nd, fun j o h => by
    obtain ⟨a, h1, h2⟩ := S.at_ j o h
    exact ⟨a, h1, h2.mono (Pre.refl _) k (e a (List.mem_of_getElem? h1))⟩⟩
/-- a new object -/
theorem Sim.new (S : Sim C th H m) {p : Addr} {u : HO} {o : O} (hp : H p = none) (hk : Keep C.K H (upd H p u)) (h : OR C (th ++ [p]) (upd H p u) p o) : Sim C (th ++ [p]) (upd H p u) (m ++ [o]) := by
  have hf := S.fresh hp
  refine ⟨by simp [S.len], ?_, fun j o' e => ?_⟩
  · rw [List.nodup_append]
    exact ⟨S.nd, by simp, fun a ha b hb => by simp at hb; subst hb; exact fun z => hf (z ▸ ha)⟩
  · by_cases hj : j < m.length
    · rw [List.getElem?_append_left hj] at e
      obtain ⟨a, h1, h2⟩ := S.at_ j o' e
      exact ⟨a, Pre.snoc _ _ _ _ h1, h2.mono (Pre.snoc _ _) hk (upd_ne (fun z => hf (by rw [← z]; exact List.mem_of_getElem? h1)))⟩
    · have hj2 : j = m.length := by
        have := (List.getElem?_eq_some_iff.mp e).1
        simp at this; omega
      subst hj2
      rw [List.getElem?_append_right (Nat.le_refl _)] at e
      simp at e
      subst e
      exact ⟨p, by rw [← S.len, List.getElem?_append_right (Nat.le_refl _)]; simp, h⟩
/-- an object changed -/
theorem Sim.set (S : Sim C th H m) {k : Nat} {p : Addr} {u : HO} {o : O} (ha : th[k]? = some p) (hk : Keep C.K H (upd H p u)) (h : OR C th (upd H p u) p o) : Sim C th (upd H p u) (m.set k o) := by
  refine ⟨by simp [S.len], S.nd, fun j o' e => ?_⟩
  by_cases hj : k = j
  · subst hj
    have hl : k < m.length := by rw [← S.len]; exact (List.getElem?_eq_some_iff.mp ha).1
    rw [List.getElem?_set_self hl] at e
    cases e
    exact ⟨p, ha, h⟩
  · rw [List.getElem?_set_ne hj] at e
    obtain ⟨a, h1, h2⟩ := S.at_ j o' e
    exact ⟨a, h1, h2.mono (Pre.refl _) hk (upd_ne (fun z => hj (nodup_inj S.nd ha (by rw [← z]; exact h1))))⟩
end

/-- the slots -/
structure RS (C : Ct) (th : List Addr) (H : Hp) (s : L2.St) (r : Sl) : Prop where
  len : s.length = r.length
  at_ : ∀ (i : Nat) (d : D), r[i]? = some (some d) → ∃ v, s[i]? = some (some v) ∧ RV C.K th H v d
section
variable {C : Ct} {th th' : List Addr} {H H' : Hp} {s : L2.St} {r : Sl}
theorem RS.mono (S : RS C th H s r) (p : Pre th th') (k : Keep C.K H H') : RS C th' H' s r := ⟨S.len, fun i d h => let ⟨v, h1, h2⟩ := S.at_ i d h; ⟨v, h1, h2.mono p k⟩⟩
theorem RS.set (S : RS C th H s r) {v : V} {d : D} (q : RV C.K th H v d) (i : Nat) : RS C th H (s.set i (some v)) (r.set i (some d)) := by
  refine ⟨by simp [S.len], fun j e h => ?_⟩
  by_cases hj : i = j
  · subst hj
    have hl : i < r.length := by
      have := (List.getElem?_eq_some_iff.mp h).1
      simpa using this
    rw [List.getElem?_set_self hl] at h
    cases h
    exact ⟨v, List.getElem?_set_self (by rw [S.len]; exact hl), q⟩
  · rw [List.getElem?_set_ne hj] at h ⊢
    exact S.at_ j e h
theorem RS.wipe (S : RS C th H s r) : ∀ vs : List Nat, RS C th H (wipe s vs) (wipeS r vs)
  | [] => S
  | v :: vs => by
    have T := RS.wipe S vs
    unfold HR.wipeS L2.wipe
    refine ⟨by simp [T.len], fun j e h => ?_⟩
    by_cases hj : v = j
    · subst hj
      have hl : v < (wipeS r vs).length := by
        have := (List.getElem?_eq_some_iff.mp h).1
        simpa using this
      rw [List.getElem?_set_self hl] at h
      cases h
    · rw [List.getElem?_set_ne hj] at h ⊢
      exact T.at_ j e h
end

/-- an exception as it lies -/
def XR (C : Ct) (th : List Addr) (H : Hp) (c : Nat) (fs : List (Nat × D)) (cls : Value) (d : Option Addr) : Prop :=
  cls = .ref (C.cl c) ∧ ((fs = [] ∧ d = none) ∨ ∃ dd fv, d = some dd ∧ H dd = some (.xd fv) ∧ FR C.tb C.K th H fv fs)
/-- what a result leads to -/
def Gd {α β : Type} (C : Ct) (th : List Addr) (H : Hp) (r : R α) (Rel : List Addr → Hp → β → α → Prop) (Q : List Addr → β → Hp → Mem → Prop) (W : Value → Option Addr → Hp → Prop) : Prop :=
  match r with
  | .ok a m => ∀ th' H' b, Pre th th' → Keep C.K H H' → Sim C th' H' m → Rel th' H' b a → Q th' b H' m
  | .exn c fs m => ∀ th' H' cls d, Pre th th' → Keep C.K H H' → Sim C th' H' m → XR C th' H' c fs cls d → W cls d H'
  | .bad => False
end HR

set_option linter.all false
set_option maxRecDepth 100000
/-! HR, part 3: operators, subscripts, built-in functions by values. -/
namespace HR
open PySem L2 PyProof.Rows

theorem big_line {n : Nat} (h : n ≤ big) : n ≤ sizeLine := Nat.le_trans h (by rw [sizeLine_eq]; decide)
theorem big_lt {n : Nat} (h : n < big) : n < sizeLine := Nat.lt_of_lt_of_le h (by rw [sizeLine_eq]; decide)

section gd
variable {C : Ct} {th : List Addr} {H : Hp} {m : Mem} {Q : VK} {W : Value → Option Addr → Hp → Prop} {α β γ : Type}
/-- a result whose value is a D -/
abbrev GV (C : Ct) (th : List Addr) (H : Hp) (r : R D) (Q : VK) (W : Value → Option Addr → Hp → Prop) : Prop :=
  Gd C th H r (fun th' H' v d => RV C.K th' H' v d) (fun _ v H' _ => Q v H') W
theorem Gd.shift {r : R α} {Rel : List Addr → Hp → β → α → Prop} {P : List Addr → β → Hp → Mem → Prop} {th' : List Addr} {H' : Hp} (p : Pre th th') (k : Keep C.K H H') (h : Gd C th H r Rel P W) : Gd C th' H' r Rel P W := by
  cases r with
  | ok a m => exact fun t2 H2 b p2 k2 => h t2 H2 b (p.trans p2) (k.trans k2)
  | exn c fs m => exact fun t2 H2 cl d p2 k2 => h t2 H2 cl d (p.trans p2) (k.trans k2)
  | bad => exact h
theorem Gd.imp {r : R α} {Rel : List Addr → Hp → β → α → Prop} {P P' : List Addr → β → Hp → Mem → Prop} (h : Gd C th H r Rel P W) (hi : ∀ t b H m, P t b H m → P' t b H m) : Gd C th H r Rel P' W := by
  cases r with
  | ok a m => exact fun t2 H2 b p2 k2 s r => hi _ _ _ _ (h t2 H2 b p2 k2 s r)
  | exn c fs m => exact h
  | bad => exact h
/-- one after another -/
theorem Gd.bind {r : R α} {f : α → Mem → R γ} {δ : Type} {Rel : List Addr → Hp → β → α → Prop} {Rel2 : List Addr → Hp → δ → γ → Prop} {P : List Addr → δ → Hp → Mem → Prop} (h : Gd C th H (r.bind f) Rel2 P W) :
    Gd C th H r Rel (fun th1 b H1 m1 => ∃ a, r = .ok a m1 ∧ Pre th th1 ∧ Keep C.K H H1 ∧ Sim C th1 H1 m1 ∧ Rel th1 H1 b a ∧ Gd C th1 H1 (f a m1) Rel2 P W) W := by
  cases r with
  | ok a m => exact fun t2 H2 b p2 k2 s rl => ⟨a, rfl, p2, k2, s, rl, Gd.shift p2 k2 h⟩
  | exn c fs m => exact h
  | bad => exact h
theorem Gd.here {a : α} {b : β} {Rel : List Addr → Hp → β → α → Prop} {P : List Addr → β → Hp → Mem → Prop} (S : Sim C th H m) (rl : Rel th H b a) (h : Gd C th H (.ok a m) Rel P W) : P th b H m := h th H b (Pre.refl _) (Keep.refl _ _) S rl
theorem gd_of {o : Option α} {Rel : List Addr → Hp → β → α → Prop} {P : List Addr → β → Hp → Mem → Prop} (h : Gd C th H (R.of m o) Rel P W) : ∃ a, o = some a ∧ Gd C th H (.ok a m) Rel P W := by
  cases o with
  | none => exact h.elim
  | some a => exact ⟨a, rfl, h⟩
theorem gv_here {d : D} {v : V} (S : Sim C th H m) (r : RV C.K th H v d) (h : GV C th H (.ok d m) Q W) : Q v H := Gd.here S r h
/-- a new tuple -/
theorem Sim.tup (S : Sim C th H m) {p : Addr} {xs : List V} (hp : H p = none) : Sim C th (upd H p (.tup xs)) m :=
  S.mono (keep_upd (.inr hp)) fun a ha => upd_ne fun z => S.fresh hp (z ▸ ha)
theorem RVs.new {p : Addr} {xs : List V} {ds : List D} {u : HO} (hp : H p = none) (r : RVs C.K th H xs ds) : RVs C.K th (upd H p u) xs ds := r.mono (Pre.refl _) (keep_upd (.inr hp))
theorem gd_tup {ds : List D} {xs : List V} (S : Sim C th H m) (r : RVs C.K th H xs ds) (h : GV C th H (.ok (.tup ds) m) Q W) {p : Addr} (hp : H p = none) : Q (.ref p) (upd H p (.tup xs)) :=
  h th (upd H p (.tup xs)) (.ref p) (Pre.refl _) (keep_upd (.inr hp)) (S.tup hp) (.tup upd_same (r.new hp))
/-- a new mutable object -/
theorem gd_new {o : O} {u : HO} (S : Sim C th H m) (h : GV C th H (.ok (.ref m.length) (m ++ [o])) Q W) {p : Addr} (hp : H p = none) (ho : OR C (th ++ [p]) (upd H p u) p o) : Q (.ref p) (upd H p u) :=
  h (th ++ [p]) (upd H p u) (.ref p) (Pre.snoc _ _) (keep_upd (.inr hp)) (S.new hp (keep_upd (.inr hp)) ho) (.ref (by rw [← S.len, List.getElem?_append_right (Nat.le_refl _)]; simp))
theorem gd_newL {ds : List D} {xs : List V} (S : Sim C th H m) (r : RVs C.K th H xs ds) (h : GV C th H (.ok (.ref m.length) (m ++ [.lst ds])) Q W) {p : Addr} (hp : H p = none) : Q (.ref p) (upd H p (.lst xs)) :=
  gd_new S h hp ⟨xs, upd_same, r.mono (Pre.snoc _ _) (keep_upd (.inr hp))⟩
/-- an object changed -/
theorem gd_set {d : D} {v : V} {k : Nat} {p : Addr} {o : O} {u : HO} (S : Sim C th H m) (h : GV C th H (.ok d (m.set k o)) Q W) (ha : th[k]? = some p) (mu : Mut (H p)) (ho : OR C th (upd H p u) p o) (r : RV C.K th H v d) : Q v (upd H p u) :=
  h th (upd H p u) v (Pre.refl _) (keep_upd (.inl mu)) (S.set ha (keep_upd (.inl mu)) ho) (r.mono (Pre.refl _) (keep_upd (.inl mu)))
theorem Sim.lst (S : Sim C th H m) {k : Nat} {a : Addr} {ds : List D} (ha : th[k]? = some a) (h : m[k]? = some (.lst ds)) : ∃ xs, H a = some (.lst xs) ∧ RVs C.K th H xs ds := S.get h ha
theorem listAt_some {k : Nat} {ds : List D} (h : listAt m k = some ds) : m[k]? = some (.lst ds) := by
  unfold listAt at h
  split at h
  · rename_i xs e; cases h; exact e
  · cases h
theorem Sim.listAt (S : Sim C th H m) {k : Nat} {a : Addr} {ds : List D} (ha : th[k]? = some a) (h : listAt m k = some ds) : ∃ xs, H a = some (.lst xs) ∧ RVs C.K th H xs ds := S.lst ha (listAt_some h)
/-- anything that can be walked by places -/
theorem seq_of (S : Sim C th H m) {d : D} {v : V} {ds : List D} (r : RV C.K th H v d) (h : seqOf m d = some ds) : ∃ a xs, v = .ref a ∧ (SqL C.K H a xs ∨ SqT C.K H a xs) ∧ RVs C.K th H xs ds := by
  cases r with
  | ref ha =>
    obtain ⟨xs, e, q⟩ := S.listAt ha h
    exact ⟨_, xs, rfl, .inl (.inl (.inl e)), q⟩
  | scr hs =>
    simp [seqOf] at h; subst h
    exact ⟨_, _, rfl, .inl hs.sq, RVs.ints _⟩
  | tup e q =>
    simp [seqOf] at h; subst h
    exact ⟨_, _, rfl, .inr (.inl (.inl e)), q⟩
  | _ => cases h
end gd

/-! ### data for == -/
section py
variable {C : Ct} {th : List Addr} {H : Hp} {m : Mem}
theorem mapM_all {α β : Type} {f : α → Option β} : ∀ {xs : List α} {ys : List β}, xs.mapM f = some ys → Paired (fun x y => f x = some y) xs ys
  | [], ys, h => by simp at h; subst h; exact .nil
  | x :: xs, ys, h => by
    rw [List.mapM_cons] at h
    cases q : f x with
    | none => simp [q] at h
    | some y =>
      cases q2 : xs.mapM f with
      | none => simp [q, q2] at h
      | some zs =>
        simp [q, q2] at h
        subst h
        exact .cons q (mapM_all q2)
theorem dp_all {n : Nat} (ih : ∀ {d : D} {v : V} {p : PyData}, RV C.K th H v d → toPy m n d = some p → Dp C.K H v p) : ∀ {ds : List D} {vs : List V} {ps : List PyData}, RVs C.K th H vs ds → Paired (fun x y => toPy m n x = some y) ds ps → DpAll C.K H vs ps
  | _, _, _, .nil, .nil => .nil
  | _, _, _, .cons r t, .cons h u => .cons (ih r h) (dp_all ih t u)
theorem toPy_dp (S : Sim C th H m) : ∀ (n : Nat) {d : D} {v : V} {p : PyData}, RV C.K th H v d → toPy m n d = some p → Dp C.K H v p
  | 0, _, _, _, _, h => by simp [toPy] at h
  | n + 1, d, v, p, r, h => by
    cases r with
    | non => simp [toPy] at h; subst h; exact .non
    | bl b => simp [toPy] at h; subst h; exact .bl b
    | int i => simp [toPy] at h; subst h; exact .int i
    | str x => simp [toPy] at h; subst h; exact .str x
    | byt x => simp [toPy] at h
    | scr x => simp [toPy] at h
    | tup e q =>
      rename_i a xs ds
      unfold toPy at h
      cases z : ds.mapM (toPy m n) with
      | none => simp [z] at h
      | some ps =>
        simp [z] at h; subst h
        exact .tup (.inl (.inl e)) (dp_all (toPy_dp S n) q (mapM_all z))
    | ref ha =>
      rename_i k a
      unfold toPy at h
      cases y : HR.listAt m k with
      | none => simp [y] at h
      | some xs =>
        cases z : xs.mapM (toPy m n) with
        | none => simp [y, z] at h
        | some ps =>
          simp [y, z] at h; subst h
          obtain ⟨vs, e, q⟩ := S.listAt ha y
          exact .lst (.inl (.inl e)) (dp_all (toPy_dp S n) q (mapM_all z))
theorem pyOk_dp (S : Sim C th H m) {d : D} {v : V} {p : PyData} (r : RV C.K th H v d) (h : pyOk m d = some p) : Dp C.K H v p ∧ SeqAt.shaped p = true := by
  unfold pyOk at h
  cases q : toPy m 8 d with
  | none => simp [q] at h
  | some p' =>
    simp [q] at h
    obtain ⟨h1, h2⟩ := h
    subst h2
    exact ⟨toPy_dp S 8 r q, h1⟩
theorem eqD_rule (S : Sim C th H m) {x y : D} {v w : V} {b : Bool} (r : RV C.K th H v x) (r2 : RV C.K th H w y) (h : eqD m x y = some b) : ∃ d e, Dp C.K H v d ∧ Dp C.K H w e ∧ SeqAt.shaped d = true ∧ SeqAt.shaped e = true ∧ PyData.eqv d e = b := by
  unfold eqD at h
  cases q : pyOk m x with
  | none => simp [q] at h
  | some d =>
    cases q2 : pyOk m y with
    | none => simp [q, q2] at h
    | some e =>
      simp [q, q2] at h
      obtain ⟨a1, a2⟩ := pyOk_dp S r q
      obtain ⟨b1, b2⟩ := pyOk_dp S r2 q2
      exact ⟨d, e, a1, b1, a2, b2, h⟩
end py

/-! ### keys -/
section keys
variable {C : Ct} {th : List Addr} {H : Hp} {m : Mem}
theorem key_of {d : D} {v : V} {q : HR.Key} (r : RV C.K th H v d) (h : keyOf d = some q) : v = kV q := by
  cases r <;> simp [keyOf] at h <;> subst h <;> rfl
theorem keys_of : ∀ {ds : List D} {vs : List V} {q : List HR.Key}, RVs C.K th H vs ds → ds.mapM keyOf = some q → vs = q.map kV
  | _, _, q, .nil, h => by simp at h; subst h; rfl
  | _, _, q, .cons (d := d) (ds := ds) r t, h => by
    rw [List.mapM_cons] at h
    cases a : keyOf d with
    | none => simp [a] at h
    | some k =>
      cases b : ds.mapM keyOf with
      | none => simp [a, b] at h
      | some ks =>
        simp [a, b] at h
        subst h
        rw [key_of r a, keys_of t b]; rfl
theorem keysOf_rule {d : D} {v : V} {q : List HR.Key} (r : RV C.K th H v d) (h : keysOf d = some q) : ∃ b, v = .ref b ∧ H b = some (.tup (q.map kV)) := by
  cases r with
  | tup e t => exact ⟨_, rfl, by rw [e, keys_of t h]⟩
  | _ => simp [keysOf] at h
theorem Sim.dK (S : Sim C th H m) {k : Nat} {a : Addr} {lk : Bool} {kvs : List (HR.Key × D)} (ha : th[k]? = some a) (h : m[k]? = some (.dK lk kvs)) : ∃ kv, Rd H a (.dK kv) ∧ KR C.K th H kv kvs ∧ (lk = false → H a = some (.dK kv)) := by
  obtain ⟨kv, e, r⟩ := S.get h ha
  cases lk with
  | false => exact ⟨kv, .inl (by simpa using e), r, fun _ => by simpa using e⟩
  | true =>
    have e : ∃ o, H a = some (.frz o (.dK kv)) := by simpa using e
    exact ⟨kv, .inr e, r, fun z => by cases z⟩
theorem Sim.dT (S : Sim C th H m) {k : Nat} {a : Addr} {lk : Bool} {kvs : List (List HR.Key × D)} (ha : th[k]? = some a) (h : m[k]? = some (.dT lk kvs)) : ∃ kv, Rd H a (.dT kv) ∧ KR C.K th H kv kvs ∧ (lk = false → H a = some (.dT kv)) := by
  obtain ⟨kv, e, r⟩ := S.get h ha
  cases lk with
  | false => exact ⟨kv, .inl (by simpa using e), r, fun _ => by simpa using e⟩
  | true =>
    have e : ∃ o, H a = some (.frz o (.dT kv)) := by simpa using e
    exact ⟨kv, .inr e, r, fun z => by cases z⟩
/-- d[y] and the like -/
theorem dict_rule (S : Sim C th H m) {k : Nat} {a : Addr} {y : D} {w : V} {o : Option D} (ha : th[k]? = some a) (r : RV C.K th H w y) (h : dictAt m k y = some o) : ∃ ov, DGet H a w ov ∧ ((o = none ∧ ov = none) ∨ ∃ d v, o = some d ∧ ov = some v ∧ RV C.K th H v d) := by
  unfold dictAt at h
  split at h
  · rename_i lk kvs e
    cases q : keyOf y with
    | none => simp [q] at h
    | some key =>
      simp [q] at h
      obtain ⟨kv, rd, kr, _⟩ := S.dK ha e
      refine ⟨valV kv key, .inl ⟨kv, key, rd, key_of r q, rfl⟩, ?_⟩
      rcases kr.get (k := key) with ⟨h1, h2⟩ | ⟨v, d, h1, h2, h3⟩
      · exact .inl ⟨by rw [← h, h2], h1⟩
      · exact .inr ⟨d, v, by rw [← h, h2], h1, h3⟩
  · rename_i lk kvs e
    cases q : keysOf y with
    | none => simp [q] at h
    | some key =>
      simp [q] at h
      obtain ⟨kv, rd, kr, _⟩ := S.dT ha e
      obtain ⟨b, e1, e2⟩ := keysOf_rule r q
      refine ⟨valV kv key, .inr ⟨kv, key, b, rd, e1, e2, rfl⟩, ?_⟩
      rcases kr.get (k := key) with ⟨h1, h2⟩ | ⟨v, d, h1, h2, h3⟩
      · exact .inl ⟨by rw [← h, h2], h1⟩
      · exact .inr ⟨d, v, by rw [← h, h2], h1, h3⟩
  · cases h
end keys
theorem op_in_dict {X : L2.Cx} (hu : X.A.units + 1 < cLine) : OpR X (compareOp .In) (fun x y H Q => ∃ a o, y = .ref a ∧ DGet H a x o ∧ Q (.bl o.isSome) H) := by
  intro pins s σ H x y v u Q I rx ry h
  obtain ⟨a, o, rfl, g, q⟩ := h
  obtain rfl : u = Value.ref a := ry
  exact d_in hu I g rx fun s' I' => ⟨.bl _, H, I', rfl, q⟩
theorem op_notin_dict {X : L2.Cx} (hu : X.A.units + 1 < cLine) : OpR X (compareOp .NotIn) (fun x y H Q => ∃ a o, y = .ref a ∧ DGet H a x o ∧ Q (.bl (!o.isSome)) H) := by
  intro pins s σ H x y v u Q I rx ry h
  obtain ⟨a, o, rfl, g, q⟩ := h
  obtain rfl : u = Value.ref a := ry
  exact d_notIn hu I g rx fun s' I' => ⟨.bl _, H, I', rfl, q⟩
theorem ix_dict {X : L2.Cx} (hu : X.A.units + 1 < cLine) : IxR X (fun x y H Q => ∃ a v, x = .ref a ∧ DGet H a y (some v) ∧ Q v H) := by
  intro value slice pins s σ H x y v u Q I rx ry h hs
  obtain ⟨a, z, rfl, g, q⟩ := h
  obtain rfl : v = Value.ref a := rx
  have hT := dict_typeIs I g
  unfold subscriptTail
  refine wpAny_bind ?_
  rw [getitemInPython_of_ne hT.not_modules]
  refine wpAny_bind (wpAny_specialOf hT PySem.F.slot_dict_getitem.lookup ?_)
  have fin : wpAny (model X.prog X.w) X.A (subscripted slice false (Value.ref a) u) (fun r s₃ => wpAny (model X.prog X.w) X.A (letTemporaryGo value (Value.ref a) r >>= fun _ => pure r) (EP X pins σ Q) X.xe s₃) X.xe s := by
    rw [hs]
    refine wpAny_operating (d_getItem hu I g ry fun w' s3 I3 rw' => ?_)
    exact wpAny_bind (wpAny_letTemporaryGo (wpAny_pure ⟨z, H, I3, rw', q⟩))
  first
    | exact wpAny_pure (wpAny_bind fin)
    | exact wpAny_bind (wpAny_pure (wpAny_bind fin))
    | exact wpAny_bind fin
theorem opR_false {X : L2.Cx} (f : Value → Value → Sem Value) : OpR X f (fun _ _ _ _ => False) := fun _ _ _ _ _ _ _ _ _ _ _ _ h => h.elim

/-! ### binary operators -/
def rB (K : PySem.W.Frag) (op : Operator) : R2 :=
  match op with
  | .Add => fun x y H Q => rI0 (fun i j => .int (i + j)) x y H Q ∨ (∃ i j, x = .str i ∧ y = .str j ∧ i.length + j.length ≤ sizeLine ∧ Q (.str (i ++ j)) H) ∨ rCatA K x y H Q ∨ rCat x y H Q
  | .Sub => rI0 fun i j => .int (i - j)
  | .Mult => fun x y H Q => rI CMul (fun i j => .int (i * j)) x y H Q ∨ rRep x y H Q
  | .FloorDiv => rI CDivW fun i j => .int (i / j)
  | .Mod => rI (fun _ j => 0 < j) fun i j => .int (i % j)
  | .Pow => rI CPow fun i j => .int (i ^ j.toNat)
  | _ => fun _ _ _ _ => False
theorem op_rB {X : L2.Cx} : ∀ op : Operator, OpR X (binaryOp op) (rB X.K op)
  | .Add => op_add.or (op_add_str.or (op_catA.or op_cat))
  | .Sub => op_sub
  | .Mult => op_mul.or op_rep
  | .FloorDiv => op_fdivW
  | .Mod => op_mod
  | .Pow => op_pow
  | .MatMult => opR_false _
  | .Div => opR_false _
  | .LShift => opR_false _
  | .RShift => opR_false _
  | .BitOr => opR_false _
  | .BitXor => opR_false _
  | .BitAnd => opR_false _
section binv
variable {C : Ct} {th : List Addr} {H : Hp} {m : Mem} {Q : VK} {W : Value → Option Addr → Hp → Prop}
theorem small_of {i : Int} (h : small i = true) : -(2 ^ 64) < i ∧ i < 2 ^ 64 := by unfold small at h; exact of_decide_eq_true h
theorem binV_rule (S : Sim C th H m) {x y : D} {v w : V} (r : RV C.K th H v x) (r2 : RV C.K th H w y) (op : Operator) (h : GV C th H (binV op x y m) Q W) : rB C.K op v w H Q := by
  cases op with
  | Add =>
    cases r with
    | int i =>
      cases r2 with
      | int j => exact .inl ⟨i, j, rfl, rfl, gv_here S (.int _) h⟩
      | _ => exact h.elim
    | str a =>
      cases r2 with
      | str b =>
        simp only [binV] at h
        split at h
        · rename_i hz
          exact .inr (.inl ⟨a, b, rfl, rfl, big_line hz, gv_here S (.str _) h⟩)
        · exact h.elim
      | _ => exact h.elim
    | tup e q =>
      cases r2 with
      | tup e2 q2 =>
        rename_i a xs ds b ys es
        simp only [binV] at h
        split at h
        · rename_i hz
          refine .inr (.inr (.inl ⟨a, b, xs, ys, rfl, rfl, .inl (.inl e), .inl (.inl e2), ?_, ?_, ?_, ?_⟩))
          · rw [q.length, q2.length]; exact big_line hz
          · intro z
            subst z
            cases q
            exact gv_here S (.tup e2 q2) h
          · intro _ z
            subst z
            cases q2
            rw [List.append_nil] at h
            exact gv_here S (.tup e q) h
          · intro _ _ p hp
            exact gd_tup S (q.append q2) h hp
        · exact h.elim
      | _ => exact h.elim
    | ref ha =>
      cases r2 with
      | ref hb =>
        rename_i k a l b
        simp only [binV] at h
        split at h
        · rename_i xs ys e1 e2
          split at h
          · rename_i hz
            obtain ⟨vs, f1, g1⟩ := S.lst ha e1
            obtain ⟨ws, f2, g2⟩ := S.lst hb e2
            exact .inr (.inr (.inr ⟨a, b, vs, ws, rfl, rfl, f1, f2, by rw [g1.length, g2.length]; exact big_line hz, fun p hp => gd_newL S (g1.append g2) h hp⟩))
          · exact h.elim
        · exact h.elim
      | _ => exact h.elim
    | _ => cases r2 <;> exact h.elim
  | Sub =>
    cases r with
    | int i =>
      cases r2 with
      | int j => exact ⟨i, j, rfl, rfl, gv_here S (.int _) h⟩
      | _ => exact h.elim
    | _ => cases r2 <;> exact h.elim
  | Mult =>
    cases r with
    | int i =>
      cases r2 with
      | int j =>
        simp only [binV] at h
        split at h
        · rename_i hz
          refine .inl ⟨i, j, rfl, rfl, ?_, gv_here S (.int _) h⟩
          rcases Bool.or_eq_true_iff.mp hz with z | z
          · exact .inl (small_of z)
          · exact .inr (small_of z)
        · exact h.elim
      | _ => exact h.elim
    | ref ha =>
      cases r2 with
      | int k =>
        rename_i j a
        simp only [binV] at h
        split at h
        · rename_i xs e1
          split at h
          · rename_i hz
            obtain ⟨h1, h2, h3⟩ := hz
            obtain ⟨vs, f1, g1⟩ := S.lst ha e1
            refine .inr ⟨a, k, vs, rfl, rfl, f1, by omega, by omega, ?_, fun p hp => gd_newL S (g1.rep _) h hp⟩
            rw [g1.length]
            have : xs.length * k.toNat ≤ 1000 * 1000 := Nat.mul_le_mul h3 (by omega)
            exact Nat.le_trans this (by rw [sizeLine_eq]; decide)
          · exact h.elim
        · exact h.elim
      | _ => exact h.elim
    | _ => cases r2 <;> exact h.elim
  | FloorDiv =>
    cases r with
    | int i =>
      cases r2 with
      | int j =>
        simp only [binV] at h
        split at h
        · rename_i hz
          refine ⟨i, j, rfl, rfl, wide_div hz.1 (b := 64) (by omega) (by decide) (by decide), gv_here S (.int _) h⟩
        · exact h.elim
      | _ => exact h.elim
    | _ => cases r2 <;> exact h.elim
  | Mod =>
    cases r with
    | int i =>
      cases r2 with
      | int j =>
        simp only [binV] at h
        split at h
        · rename_i hz
          exact ⟨i, j, rfl, rfl, hz, gv_here S (.int _) h⟩
        · exact h.elim
      | _ => exact h.elim
    | _ => cases r2 <;> exact h.elim
  | Pow =>
    cases r with
    | int i =>
      cases r2 with
      | int j =>
        simp only [binV] at h
        split at h
        · rename_i hz
          obtain ⟨h1, h2, h3⟩ := hz
          have h4 := small_of h3
          exact ⟨i, j, rfl, rfl, ⟨h1, by omega, by omega⟩, gv_here S (.int _) h⟩
        · exact h.elim
      | _ => exact h.elim
    | _ => cases r2 <;> exact h.elim
  | _ => exact h.elim
end binv
end HR

set_option linter.all false
set_option maxRecDepth 100000
/-! HR, part 4: comparisons, subscripts, attributes, built-in functions by values. -/
namespace HR
open PySem L2 PyProof.Rows
section
variable {C : Ct} {th : List Addr} {H : Hp} {m : Mem} {Q : VK} {W : Value → Option Addr → Hp → Prop}

/-- in a tuple of data -/
def rInTup (K : PySem.W.Frag) (neg : Bool) : R2 := fun x y H Q => ∃ d ds, Dp K H x d ∧ Dp K H y (.tuple ds) ∧ SeqAt.shaped d = true ∧ SeqAt.shaped (.tuple ds) = true ∧ Q (.bl (if neg then !(ds.any fun z => PyData.eqv z d) else ds.any fun z => PyData.eqv z d)) H
theorem op_inTup {X : L2.Cx} (hu : X.A.units + 65 < cLine) : OpR X (compareOp .In) (rInTup X.K false) := by
  intro pins s σ H x y v u Q I rx ry h
  obtain ⟨d, ds, hd, he, sd, se, q⟩ := h
  obtain ⟨as, r1⟩ := Dp.reads I d x v hd rx
  obtain ⟨bs, r2⟩ := Dp.reads I (.tuple ds) y u he ry
  exact SeqAt.in_tuple_reads r2 r1 (SeqAt.canLay_of_shaped se) (SeqAt.canLay_of_shaped sd) (room_in_shaped sd hu) ⟨.bl _, H, I, rfl, q⟩
theorem op_notInTup {X : L2.Cx} (hu : X.A.units + 65 < cLine) : OpR X (compareOp .NotIn) (rInTup X.K true) := by
  intro pins s σ H x y v u Q I rx ry h
  obtain ⟨d, ds, hd, he, sd, se, q⟩ := h
  obtain ⟨as, r1⟩ := Dp.reads I d x v hd rx
  obtain ⟨bs, r2⟩ := Dp.reads I (.tuple ds) y u he ry
  exact SeqAt.notIn_tuple_reads r2 r1 (SeqAt.canLay_of_shaped se) (SeqAt.canLay_of_shaped sd) (room_in_shaped sd hu) ⟨.bl _, H, I, rfl, q⟩
def rCm (K : PySem.W.Frag) (op : CmpOp) : R2 :=
  match op with
  | .Lt => rI0 fun i j => .bl (decide (i < j))
  | .LtE => rI0 fun i j => .bl (decide (i ≤ j))
  | .Gt => rI0 fun i j => .bl (decide (j < i))
  | .GtE => rI0 fun i j => .bl (decide (j ≤ i))
  | .Eq => rEqD K
  | .NotEq => rNeD K
  | .Is => fun x y H Q => y = .non ∧ Q (.bl (decide (x = .non))) H
  | .IsNot => fun x y H Q => y = .non ∧ Q (.bl (!decide (x = .non))) H
  | .In => fun x y H Q => (rIn K false x y H Q ∨ rInTup K false x y H Q) ∨ rInD K x y H Q ∨ ∃ a o, y = .ref a ∧ DGet H a x o ∧ Q (.bl o.isSome) H
  | .NotIn => fun x y H Q => (rIn K true x y H Q ∨ rInTup K true x y H Q) ∨ rNotInD K x y H Q ∨ ∃ a o, y = .ref a ∧ DGet H a x o ∧ Q (.bl (!o.isSome)) H
theorem op_rCm {X : L2.Cx} {k : Nat} (hr : Room k X.A) : ∀ op : CmpOp, OpR X (compareOp op) (rCm X.K op)
  | .Lt => op_lt
  | .LtE => op_le
  | .Gt => op_gt
  | .GtE => op_ge
  | .Eq => op_eqD hr.units
  | .NotEq => op_neD hr.units
  | .Is => op_isN
  | .IsNot => op_notN
  | .In => (op_in_seq.or (op_inTup (by have := hr.un; omega))).or ((op_inD (by have := hr.un; omega)).or (op_in_dict (by have := hr.un; omega)))
  | .NotIn => (op_notIn_seq.or (op_notInTup (by have := hr.un; omega))).or ((op_notInD (by have := hr.un; omega)).or (op_notin_dict (by have := hr.un; omega)))
theorem flat_of {d : D} {v : V} (r : RV C.K th H v d) (h : isFlat d = true) : flatV v = true := by
  cases r <;> first | rfl | cases h
theorem eqF_rule {d e : D} {v w : V} (r : RV C.K th H v d) (r2 : RV C.K th H w e) (h : isFlat d = true) (h2 : isFlat e = true) : eqV v w = eqF d e := by
  cases r <;> first | (cases h; done) | (cases r2 <;> first | rfl | cases h2)
theorem flats_of : ∀ {ds : List D} {vs : List V}, RVs C.K th H vs ds → ds.all isFlat = true → vs.all flatV = true
  | _, _, .nil, _ => rfl
  | _, _, .cons r t, h => by
    rw [List.all_cons, Bool.and_eq_true] at h ⊢
    exact ⟨flat_of r h.1, flats_of t h.2⟩
theorem anyF_rule {x : D} {w : V} (r2 : RV C.K th H w x) (h2 : isFlat x = true) : ∀ {ds : List D} {vs : List V}, RVs C.K th H vs ds → ds.all isFlat = true → inV w vs = ds.any fun z => eqF z x
  | _, _, .nil, _ => rfl
  | _, _, .cons r t, h => by
    rw [List.all_cons, Bool.and_eq_true] at h
    have ih := anyF_rule r2 h2 t h.2
    unfold inV at ih ⊢
    rw [List.any_cons, List.any_cons, ih, eqF_rule r r2 h.1 h2]
theorem inD_rule (S : Sim C th H m) {x y : D} {v w : V} {b : Bool} (r : RV C.K th H v x) (r2 : RV C.K th H w y) (h : inD m x y = some b) (neg : Bool) (hq : Q (.bl (if neg then !b else b)) H) :
    (rIn C.K neg v w H Q ∨ rInTup C.K neg v w H Q) ∨ (if neg then rNotInD C.K v w H Q else rInD C.K v w H Q) ∨ ∃ a o, w = .ref a ∧ DGet H a v o ∧ Q (.bl (if neg then !o.isSome else o.isSome)) H := by
  cases r2 with
  | tup e q =>
    rename_i a xs ds
    simp only [inD] at h
    split at h
    · rename_i hz
      rw [Bool.and_eq_true] at hz
      refine .inl (.inl ⟨a, xs, rfl, .inr (.inl (.inl e)), flat_of r hz.1, flats_of q hz.2, ?_⟩)
      rw [anyF_rule r hz.1 q hz.2]
      have : (ds.any fun z => eqF z x) = b := Option.some.inj h
      rw [this]; exact hq
    · cases q1 : pyOk m x with
      | none => simp [q1] at h
      | some d1 =>
        cases q2 : pyOk m (.tup ds) with
        | none => simp [q1, q2] at h
        | some d2 =>
          simp [q1, q2] at h
          cases d2 with
          | tuple es =>
            simp at h
            obtain ⟨a1, a2⟩ := pyOk_dp S r q1
            obtain ⟨b1, b2⟩ := pyOk_dp S (.tup e q) q2
            exact .inl (.inr ⟨d1, es, a1, b1, a2, b2, by rw [h]; exact hq⟩)
          | _ => simp at h
  | ref ha =>
    rename_i k a
    simp only [inD] at h
    split at h
    · rename_i xs e
      obtain ⟨vs, f, q⟩ := S.listAt ha e
      split at h
      · rename_i hz
        rw [Bool.and_eq_true] at hz
        refine .inl (.inl ⟨a, vs, rfl, .inl (.inl (.inl f)), flat_of r hz.1, flats_of q hz.2, ?_⟩)
        rw [anyF_rule r hz.1 q hz.2]
        have : (xs.any fun z => eqF z x) = b := Option.some.inj h
        rw [this]; exact hq
      · cases q1 : pyOk m x with
        | none => simp [q1] at h
        | some d1 =>
          cases q2 : pyOk m (.ref k) with
          | none => simp [q1, q2] at h
          | some d2 =>
            simp [q1, q2] at h
            cases d2 with
            | list ds =>
              simp at h
              obtain ⟨a1, a2⟩ := pyOk_dp S r q1
              obtain ⟨b1, b2⟩ := pyOk_dp S (.ref ha) q2
              refine .inr (.inl ?_)
              cases neg with
              | false => exact ⟨d1, ds, a1, b1, a2, b2, by rw [h]; exact hq⟩
              | true => exact ⟨d1, ds, a1, b1, a2, b2, by rw [h]; exact hq⟩
            | _ => simp at h
    · rename_i e
      cases q1 : dictAt m k x with
      | none => simp [q1] at h
      | some o =>
        simp [q1] at h
        obtain ⟨ov, g, hov⟩ := dict_rule S ha r q1
        refine .inr (.inr ⟨a, ov, rfl, g, ?_⟩)
        have e2 : ov.isSome = b := by
          rcases hov with ⟨h1, h2⟩ | ⟨d, v', h1, h2, _⟩
          · rw [← h, h1, h2]; rfl
          · rw [← h, h1, h2]; rfl
        rw [e2]; exact hq
  | _ => cases h
theorem isnon_rule {x : D} {v : V} (r : RV C.K th H v x) : decide (v = .non) = isNon x := by
  cases r <;> rfl
theorem cmpV_rule (S : Sim C th H m) {x y : D} {v w : V} {b : Bool} (r : RV C.K th H v x) (r2 : RV C.K th H w y) (op : CmpOp) (h : cmpV op x y m = some b) (hq : Q (.bl b) H) : rCm C.K op v w H Q := by
  cases op with
  | Lt | LtE | Gt | GtE =>
    cases r with
    | int i =>
      cases r2 with
      | int j => exact ⟨i, j, rfl, rfl, by have := Option.some.inj h; show Q (.bl _) H; rw [this]; exact hq⟩
      | _ => cases h
    | _ => cases h
  | Eq =>
    obtain ⟨d, e, h1, h2, h3, h4, h5⟩ := eqD_rule S r r2 h
    exact ⟨d, e, h1, h2, h3, h4, by rw [h5]; exact hq⟩
  | NotEq =>
    simp only [cmpV] at h
    cases q : eqD m x y with
    | none => simp [q] at h
    | some b' =>
      simp [q] at h
      obtain ⟨d, e, h1, h2, h3, h4, h5⟩ := eqD_rule S r r2 q
      exact ⟨d, e, h1, h2, h3, h4, by rw [h5, h]; simpa using hq⟩
  | Is =>
    cases r2 with
    | non =>
      refine ⟨rfl, ?_⟩
      rw [isnon_rule r]
      have : isNon x = b := Option.some.inj h
      rw [this]; exact hq
    | _ => cases h
  | IsNot =>
    cases r2 with
    | non =>
      refine ⟨rfl, ?_⟩
      rw [isnon_rule r]
      have : (!isNon x) = b := Option.some.inj h
      rw [this]; exact hq
    | _ => cases h
  | In =>
    rcases inD_rule (Q := Q) S r r2 h false hq with q | q | q
    · exact .inl q
    · exact .inr (.inl q)
    · exact .inr (.inr q)
  | NotIn =>
    simp only [cmpV] at h
    cases q : inD m x y with
    | none => simp [q] at h
    | some b' =>
      simp [q] at h
      rcases inD_rule (Q := Q) S r r2 q true (by simpa [h] using hq) with z | z | z
      · exact .inl z
      · exact .inr (.inl z)
      · exact .inr (.inr z)

/-! ### subscripts -/
def rIxA (K : PySem.W.Frag) : R2 := fun x y H Q => rIx K x y H Q ∨ ∃ a v, x = .ref a ∧ DGet H a y (some v) ∧ Q v H
theorem ix_rIxA {X : L2.Cx} {k : Nat} (hr : Room k X.A) : IxR X (rIxA X.K) := ix_seq.or (ix_dict (by have := hr.un; omega))
theorem atI_rule {vs : List V} {ds : List D} {i : Int} {d : D} (q : RVs C.K th H vs ds) (h : atI ds i = some d) : ∃ v, atI vs i = some v ∧ RV C.K th H v d := by
  unfold atI at h ⊢
  rw [q.length]
  cases e : ixN ds.length i with
  | none => simp [e] at h
  | some j =>
    simp [e] at h
    obtain ⟨v, h1, h2⟩ := q.get h
    exact ⟨v, by simpa using h1, h2⟩
theorem idxV_rule (S : Sim C th H m) {a i d : D} {v w : V} (r : RV C.K th H v a) (r2 : RV C.K th H w i) (h : idxV a i m = some d) (hq : ∀ z, RV C.K th H z d → Q z H) : rIxA C.K v w H Q := by
  cases r with
  | tup e q =>
    cases r2 with
    | int i =>
      obtain ⟨z, h1, h2⟩ := atI_rule q h
      exact .inl (.inr (.inl ⟨_, _, i, z, rfl, rfl, .inl (.inl e), h1, hq z h2⟩))
    | _ => cases h
  | scr hs =>
    cases r2 with
    | int i =>
      rename_i ns
      simp only [idxV] at h
      cases e : atI ns i with
      | none => simp [e] at h
      | some n =>
        simp [e] at h
        subst h
        have e2 : atI (ns.map V.int) i = some (V.int n) := by
          unfold atI at e ⊢
          rw [List.length_map]
          cases z : ixN ns.length i with
          | none => simp [z] at e
          | some j =>
            simp [z] at e
            simp [e]
        exact .inl (.inl ⟨_, _, i, .int n, rfl, rfl, hs.sq, e2, hq _ (.int n)⟩)
    | _ => cases h
  | ref ha =>
    rename_i k p
    simp only [idxV] at h
    split at h
    · rename_i xs e
      obtain ⟨vs, f, q⟩ := S.listAt ha e
      cases r2 with
      | int i =>
        obtain ⟨z, h1, h2⟩ := atI_rule q h
        exact .inl (.inl ⟨_, _, i, z, rfl, rfl, .inl (.inl f), h1, hq z h2⟩)
      | _ => cases h
    · cases e : dictAt m k i with
      | none => simp [e] at h
      | some o =>
        simp [e] at h
        subst h
        obtain ⟨ov, g, hov⟩ := dict_rule S ha r2 e
        rcases hov with ⟨h1, _⟩ | ⟨d', v', h1, h2, h3⟩
        · cases h1
        · cases h1
          subst h2
          exact .inr ⟨p, v', rfl, g, hq v' h3⟩
  | _ => cases h
/-! ### slices -/
def rSlU (K : PySem.W.Frag) : V → Option Int → Option Int → Hp → VK → Prop := fun x lo hi H Q => rSlL K x lo hi H Q ∨ rSlA K x lo hi H Q
theorem SlR.or {X : L2.Cx} {r r' : V → Option Int → Option Int → Hp → VK → Prop} (h : SlR X r) (h' : SlR X r') : SlR X (fun x lo hi H Q => r x lo hi H Q ∨ r' x lo hi H Q) := by
  intro pins s σ H x v vl vu lo hi sl Q I rx hs p1 p2 q
  rcases q with q | q
  · exact h pins s σ H x v vl vu lo hi sl Q I rx hs p1 p2 q
  · exact h' pins s σ H x v vl vu lo hi sl Q I rx hs p1 p2 q
theorem sl_rSlU {X : L2.Cx} : SlR X (rSlU X.K) := SlR.or sl_list sl_tupA
theorem cut_rule {vs : List V} {ds : List D} (q : RVs C.K th H vs ds) (lo hi : Option Int) : RVs C.K th H (cutV vs lo hi) (cut ds lo hi) := by
  unfold cutV cut
  rw [q.length]
  exact (q.drop _).take _
theorem slcV_rule (S : Sim C th H m) {a : D} {v : V} {lo hi : Option Int} (r : RV C.K th H v a) (h : GV C th H (slcV a lo hi m) Q W) : rSlU C.K v lo hi H Q := by
  cases r with
  | tup e q =>
    rename_i p xs ds
    refine .inr ⟨p, xs, rfl, .inl (.inl e), fun hw => ?_, fun _ p2 hp => gd_tup S (cut_rule q lo hi) h hp⟩
    have ec : cut ds lo hi = ds := by
      unfold cut
      rw [← q.length, hw.1, hw.2]
      simp [q.length]
    simp only [slcV, ec] at h
    exact gv_here S (.tup e q) h
  | ref ha =>
    simp only [slcV] at h
    split at h
    · rename_i xs e
      obtain ⟨vs, f, q⟩ := S.listAt ha e
      exact .inl ⟨_, vs, rfl, .inl (.inl f), fun p hp => gd_newL S (cut_rule q lo hi) h hp⟩
    · exact h.elim
  | _ => exact h.elim
/-! ### attributes -/
theorem fldV_rule (nd : (C.tb.flds.map (·.2)).Nodup) (S : Sim C th H m) {a d : D} {v : V} {f : Nat} {n : Str} (hf : C.tb.flds.lookup f = some n) (r : RV C.K th H v a) (h : fldV a f m = some d) :
    ∃ p c x dx fs z, v = .ref p ∧ H p = some (.ins (C.cl c) dx fs) ∧ C.tb.cls.lookup c = some x ∧ fs.lookup n = some z ∧ RV C.K th H z d := by
  cases r with
  | ref ha =>
    simp only [fldV] at h
    split at h
    · rename_i c fs e
      obtain ⟨dx, fv, e1, fr, x, hx⟩ := S.get e ha
      obtain ⟨z, h1, h2⟩ := fr.get nd hf h
      exact ⟨_, c, x, dx, fv, z, rfl, e1, hx, h1, h2⟩
    · cases h
  | _ => cases h
theorem setFld_rule (nd : (C.tb.flds.map (·.2)).Nodup) (S : Sim C th H m) {o d : D} {v w : V} {f : Nat} {n : Str} {m' : Mem} (hf : C.tb.flds.lookup f = some n) (r : RV C.K th H v o) (r2 : RV C.K th H w d) (h : setFld o f d m = some m') :
    ∃ p c x dx fs, v = .ref p ∧ H p = some (.ins (C.cl c) dx fs) ∧ C.tb.cls.lookup c = some x ∧ fs.length < 1000 ∧ Sim C th (upd H p (.ins (C.cl c) dx (putF n w fs))) m' ∧ Keep C.K H (upd H p (.ins (C.cl c) dx (putF n w fs))) := by
  cases r with
  | ref ha =>
    simp only [setFld] at h
    split at h
    · rename_i c fs e
      split at h
      · rename_i hz
        cases h
        obtain ⟨dx, fv, e1, fr, x, hx⟩ := S.get e ha
        have kp : Keep C.K H (upd H _ (.ins (C.cl c) dx (putF n w fv))) := keep_upd (.inl (by rw [e1]; exact True.intro))
        refine ⟨_, c, x, dx, fv, rfl, e1, hx, by rw [fr.length]; omega, S.set ha kp ⟨dx, _, upd_same, ?_, x, hx⟩, kp⟩
        exact (fr.put nd hf r2).mono (Pre.refl _) kp
      · cases h
    · cases h
  | _ => cases h
end
end HR

set_option linter.all false
set_option maxRecDepth 100000
/-! HR, part 5: the checker of program texts, and what its answers give. -/
namespace HR
open PySem L2 PyProof.Rows

def noStar : Expr → Bool
  | .Starred _ _ => false
  | _ => true
def noSet : Expr → Bool
  | .Set _ _ _ => false
  | _ => true
def noSl : Expr → Bool
  | .Slice _ _ _ _ => false
  | _ => true
def attrOk : Expr → Bool
  | .Call (.Name _ _) [] [] _ => false
  | _ => true
def isLoc (sc : Scope) (x : Str) : Bool :=
  match sc.names.lookup x with
  | some .local => true
  | some .cell => true
  | some .free => true
  | _ => false
def isOwn (sc : Scope) (x : Str) : Bool :=
  match sc.names.lookup x with
  | some .local => true
  | some .cell => true
  | _ => false
def isGl (sc : Scope) (x : Str) : Bool :=
  match sc.names.lookup x with
  | some .globalImplicit => true
  | _ => false
def plainN (x : Str) : Bool := !(x == ("__debug__" : Str)) && !(x == ("__classdict__" : Str)) && !(x == ("__name__" : Str))

def bName : B → Str
  | .len => "len" | .sum => "sum" | .min => "min" | .max => "max" | .min2 => "min" | .max2 => "max" | .abs => "abs"
  | .int => "int" | .str => "str" | .tuple => "tuple" | .list => "list" | .dict => "dict" | .sorted => "sorted" | .all => "all" | .any => "any" | .listRange => "list"
def bOk : B → Bool
  | .str | .sorted | .listRange => false
  | _ => true
def bmOk : BM → Nat → Bool
  | .append, n => decide (n = 1)
  | .extend, n => decide (n = 1)
  | .pop0, n => decide (n = 0)
  | .pop1, n => decide (n = 1)
  | .get2, n => decide (n = 2)
  | _, _ => false
def bmName : BM → Str
  | .append => "append" | .extend => "extend" | .pop0 => "pop" | .pop1 => "pop" | .insert => "insert" | .reverse => "reverse" | .clear => "clear" | .index => "index" | .count => "count" | .get2 => "get" | .split => "split" | .join => "join"
def tyName : Ty → Str
  | .int => "int" | .bool => "bool" | .str => "str" | .tuple => "tuple" | .list => "list"

/-! ### views -/
def vName : Expr → Option Str
  | .Name x _ => some x
  | _ => none
def vConst : Expr → Option Const
  | .Constant c _ _ => some c
  | _ => none
def vBin : Expr → Option (Expr × Operator × Expr)
  | .BinOp a o b _ => some (a, o, b)
  | _ => none
def vUn : Expr → Option (UnaryOp × Expr)
  | .UnaryOp o a _ => some (o, a)
  | _ => none
def vCmp : Expr → Option (Expr × List CmpOp × List Expr)
  | .Compare a o b _ => some (a, o, b)
  | _ => none
def vBool : Expr → Option (BoolOp × List Expr × Pos)
  | .BoolOp o es p => some (o, es, p)
  | _ => none
def vIf : Expr → Option (Expr × Expr × Expr)
  | .IfExp c a b _ => some (c, a, b)
  | _ => none
def vTup : Expr → Option (List Expr)
  | .Tuple es _ _ => some es
  | _ => none
def vLst : Expr → Option (List Expr)
  | .List es _ => some es
  | _ => none
def vSub : Expr → Option (Expr × Expr)
  | .Subscript a b _ => some (a, b)
  | _ => none
def vSlc : Expr → Option (Expr × Option Expr × Option Expr)
  | .Subscript a (.Slice l h none _) _ => some (a, l, h)
  | _ => none
def vAttr : Expr → Option (Expr × Str)
  | .Attribute a f _ => some (a, f)
  | _ => none
def vCallN : Expr → Option (Str × List Expr)
  | .Call (.Name x _) es [] _ => some (x, es)
  | _ => none
def vCallA : Expr → Option (Expr × Str × Pos × List Expr × Pos)
  | .Call (.Attribute o m p) es [] q => some (o, m, p, es, q)
  | _ => none
def vLc : Expr → Option (Expr × Comprehension × Scope)
  | .ListComp e [g] sc _ => some (e, g, sc)
  | _ => none
def vDc : Expr → Option (Expr × Expr × Comprehension × Scope)
  | .DictComp k v [g] sc _ => some (k, v, g, sc)
  | _ => none
def isEmptyDict : Expr → Bool
  | .Dict [] [] _ => true
  | _ => false

structure Ck where
  tb : Tab
  N : List Str
  gcs : List (Str × Int)
def ownN (ck : Ck) (own : List Nat) : List (Str × Nat) := own.map fun i => (ck.N.getD i "", i)

mutual
def chkP (ck : Ck) (sc : Scope) : P → Expr → Bool
  | .name i, e => match vName e with
    | some x => decide (ck.N[i]? = some x) && isOwn sc x
    | none => false
  | .tup ps, e => match vTup e with
    | some es => chkPs ck sc ps es
    | none => false
def chkPs (ck : Ck) (sc : Scope) : List P → List Expr → Bool
  | [], es => match es with | [] => true | _ => false
  | p :: ps, es => match es with
    | e :: es => noStar e && chkP ck sc p e && chkPs ck sc ps es
    | [] => false
end
/-- what is walked: the expressions that are evaluated for it -/
def isTupE : Expr → Bool
  | .Tuple _ _ _ => true
  | _ => false
def itArgs (sc : Scope) (ik : IK) (tg : Expr) (iter : Expr) : Option (List Expr) :=
  match ik with
  | .any => if noSet iter && noStar iter then some [iter] else none
  | .rng => match vCallN iter with
    | some (x, es) => if decide (x = "range") && isGl sc x && (decide (es.length = 1) || decide (es.length = 2) || decide (es.length = 3)) then some es else none
    | none => none
  | .enum => match vCallN iter with
    | some (x, es) => if decide (x = "enumerate") && isGl sc x && isTupE tg && decide (es.length = 1) then some es else none
    | none => none
  | .zip => match vCallN iter with
    | some (x, es) => if decide (x = "zip") && isGl sc x && isTupE tg && decide (es.length = 2) then some es else none
    | none => none
  | .items => match vCallA iter with
    | some (o, m, p, es, q) => if decide (m = "items") && es.isEmpty && isTupE tg && attrOk o && (p.endLine == q.line) then some [o] else none
    | none => none
/-- a place that no evaluation moves -/
def isPath : List E → Bool
  | [.var _] => true
  | [.fld (.var _) _] => true
  | _ => false
mutual
def chkE (ck : Ck) (sc : Scope) : E → Expr → Bool
  | .var i, e => match vName e with
    | some x => decide (ck.N[i]? = some x) && isLoc sc x && plainN x
    | none => false
  | .int i, e => match vConst e with | some (.int j) => decide (i = j) | _ => false
  | .bl b, e => match vConst e with | some (.bool c) => decide (b = c) | _ => false
  | .non, e => match vConst e with | some .none => true | _ => false
  | .str s, e => match vConst e with | some (.str t) => decide (s = t) | _ => false
  | .gint x i, e => match vName e with
    | some y => decide (x = y) && isGl sc x && plainN x && decide ((x, i) ∈ ck.gcs)
    | none => false
  | .bin op a b, e => match vBin e with
    | some (x, o, y) => decide (op = o) && chkE ck sc a x && chkE ck sc b y
    | none => false
  | .neg a, e => match vUn e with
    | some (o, x) => decide (o = .USub) && chkE ck sc a x
    | none => false
  | .not a, e => match vUn e with
    | some (o, x) => decide (o = .Not) && chkE ck sc a x
    | none => false
  | .cmp op a b, e => match vCmp e with
    | some (x, [o], [y]) => decide (op = o) && noSet y && chkE ck sc a x && chkE ck sc b y
    | _ => false
  | .cmp2 op op2 a b c, e => match vCmp e with
    | some (x, [o, o2], [y, z]) => decide (op = o) && decide (op2 = o2) && noSet z && chkE ck sc a x && chkE ck sc b y && chkE ck sc c z
    | _ => false
  | .and a b, e => match vBool e with
    | some (o, x :: y :: rest, p) => decide (o = .And) && chkE ck sc a x && (match rest with | [] => chkE ck sc b y | _ => chkE ck sc b (.BoolOp o (y :: rest) p))
    | _ => false
  | .or a b, e => match vBool e with
    | some (o, x :: y :: rest, p) => decide (o = .Or) && chkE ck sc a x && (match rest with | [] => chkE ck sc b y | _ => chkE ck sc b (.BoolOp o (y :: rest) p))
    | _ => false
  | .ite c a b, e => match vIf e with
    | some (z, x, y) => chkE ck sc c z && chkE ck sc a x && chkE ck sc b y
    | none => false
  | .tup es, e => match vTup e with | some xs => chkL ck sc es xs | none => false
  | .lst es, e => match vLst e with | some xs => chkL ck sc es xs | none => false
  | .idx a i, e => match vSub e with
    | some (x, y) => noSl y && chkE ck sc a x && chkE ck sc i y
    | none => false
  | .slc a lo hi, e => match vSlc e with
    | some (x, l, h) => chkE ck sc a x && chkO ck sc lo l && chkO ck sc hi h
    | none => false
  | .fld a f, e => match vAttr e with
    | some (x, n) => decide (ck.tb.flds.lookup f = some n) && attrOk x && chkE ck sc a x
    | none => false
  | .call f es, e => match vCallN e with
    | some (x, xs) => decide (ck.tb.fns.lookup f = some x) && isGl sc x && plainN x && chkL ck sc es xs
    | none => false
  | .meth n o es, e => match vCallA e with
    | some (x, m, p, xs, q) => decide (ck.tb.mts.lookup n = some m) && decide (m ∉ ck.tb.flds.map (·.2)) && attrOk x && (p.endLine == q.line) && decide (xs.length < 20) && chkE ck sc o x && chkL ck sc es xs
    | none => false
  | .make c es, e => match vCallN e with
    | some (x, xs) => decide (ck.tb.cls.lookup c = some x) && isGl sc x && plainN x && chkL ck sc es xs
    | none => false
  | .blt b es, e => match vCallN e with
    | some (x, xs) => decide (bName b = x) && bOk b && isGl sc x && !xs.isEmpty && chkL ck sc es xs
    | none => false
  | .bm b o es, e => match vCallA e with
    | some (x, m, p, xs, q) => decide (bmName b = m) && bmOk b es.length && attrOk x && (p.endLine == q.line) && decide (xs.length < 20) && chkE ck sc o x && chkL ck sc es xs
    | none => false
  | .isi a t, e => match vCallN e with
    | some (x, [y, .Name z _]) => decide (x = "isinstance") && isGl sc x && decide (z = tyName t) && isGl sc z && noStar y && chkE ck sc a y
    | _ => false
  | .lc own ik it p cond elt, e => match vLc e with
    | some (x, ⟨tg, iter, ifs, z⟩, sc2) => decide (z = 0) && blkC ck.N sc sc2 (ownN ck own) && chkP ck sc2 p tg && (slotsP p).all (fun i => decide (i ∈ own)) &&
        (match itArgs sc ik tg iter with
          | some xs => chkL ck sc it xs
          | none => false) && (decide (ik ≠ .items) || isPath it) &&
        decide (ifs.length ≤ 1) && chkL ck (relS sc2 sc) cond ifs && chkE ck (relS sc2 sc) elt x
    | none => false
  | .dc tk own ik it p cond k v, e => match vDc e with
    | some (x, y, ⟨tg, iter, ifs, z⟩, sc2) => decide (z = 0) && blkC ck.N sc sc2 (ownN ck own) && chkP ck sc2 p tg && (slotsP p).all (fun i => decide (i ∈ own)) &&
        (match itArgs sc ik tg iter with
          | some xs => chkL ck sc it xs
          | none => false) && (decide (ik ≠ .items) || isPath it) &&
        decide (ifs.length ≤ 1) && chkL ck (relS sc2 sc) cond ifs && chkE ck (relS sc2 sc) k x && chkE ck (relS sc2 sc) v y
    | none => false
  | .dnew _, e => isEmptyDict e
  | .lz a b, e => match vCallN e with
    | some (x, [y]) => match vCallN y with
      | some (z, [u, v]) => decide (x = "list") && isGl sc x && decide (z = "zip") && isGl sc z && noStar u && noStar v && chkE ck sc a u && chkE ck sc b v
      | _ => false
    | _ => false
def chkL (ck : Ck) (sc : Scope) : List E → List Expr → Bool
  | [], xs => match xs with | [] => true | _ => false
  | e :: es, xs => match xs with
    | x :: xs => noStar x && chkE ck sc e x && chkL ck sc es xs
    | [] => false
def chkO (ck : Ck) (sc : Scope) : List E → Option Expr → Bool
  | [], o => match o with | none => true | _ => false
  | e :: es, o => match es, o with
    | [], some x => chkE ck sc e x
    | _, _ => false
end

/-! ### what the looks give -/
theorem star_of {e : Expr} (h : noStar e = true) (es : List Expr) (env : Env) : starEach (e :: es) env = (false, eval e env) :: starEach es env := by
  cases e <;> first | rfl | cases h
theorem star_any (pos : Pos) (env : Env) : ∀ {es : List Expr}, es.all noStar = true → (backTo pos (starEach es env)).any (·.1) = false
  | [], _ => rfl
  | e :: es, h => by
    rw [List.all_cons, Bool.and_eq_true] at h
    rw [star_of h.1]
    show (false || (backTo pos (starEach es env)).any (·.1)) = false
    rw [star_any pos env h.2]; rfl
theorem star_all (pos : Pos) (env : Env) : ∀ {es : List Expr}, es.all noStar = true → (backTo pos (starEach es env)).all (fun x => !x.1) = true
  | [], _ => rfl
  | e :: es, h => by
    rw [List.all_cons, Bool.and_eq_true] at h
    rw [star_of h.1]
    show (true && (backTo pos (starEach es env)).all (fun x => !x.1)) = true
    rw [star_all pos env h.2]; rfl
theorem base_of {o : Expr} (h : attrOk o = true) (f : Str) (env : Env) (w : Sem Value) : attributeBase o f env w = w := by
  unfold attributeBase
  cases o with
  | Call fn es kws pos =>
    cases fn with
    | Name id p =>
      cases es with
      | nil =>
        cases kws with
        | nil => cases h
        | cons a b => rfl
      | cons a b => rfl
    | _ => rfl
  | _ => rfl
theorem sl_of {i : Expr} (h : noSl i = true) : PlainIx i := by
  intro o v
  cases i <;> first | rfl | cases h
theorem set_of {e : Expr} (h : noSet e = true) (env : Env) (x : Value) : foldedSetIterable e env x = pure x := by
  cases e <;> first | rfl | cases h
theorem mark_of {e : Expr} (h : noSet e = true) (op : CmpOp) : behindInMarks op e = false := by
  cases e <;> first | rfl | cases h
theorem gl_of {sc : Scope} {x : Str} (h : isGl sc x = true) : sc.names.lookup x = some .globalImplicit := by
  unfold isGl at h
  split at h
  · assumption
  · cases h
theorem loc_of {sc : Scope} {x : Str} (h : isLoc sc x = true) : Vis sc x := by
  unfold isLoc at h
  split at h
  · rename_i q; exact .inl q
  · rename_i q; exact .inr (.inl q)
  · rename_i q; exact .inr (.inr q)
  · cases h
theorem own_of {sc : Scope} {x : Str} (h : isOwn sc x = true) : Loc sc x := by
  unfold isOwn at h
  split at h
  · rename_i q; exact .inl q
  · rename_i q; exact .inr q
  · cases h
theorem plain_of {x : Str} (h : plainN x = true) : (x == ("__debug__" : Str)) = false ∧ (x == ("__classdict__" : Str)) = false ∧ x ≠ "__name__" := by
  unfold plainN at h
  simp only [Bool.and_eq_true, Bool.not_eq_true'] at h
  exact ⟨h.1.1, h.1.2, by simpa using h.2⟩
theorem chkL_star {ck : Ck} {sc : Scope} : ∀ {es : List E} {xs : List Expr}, chkL ck sc es xs = true → xs.all noStar = true
  | [], [], _ => rfl
  | [], _ :: _, h => by simp [chkL] at h
  | _ :: _, [], h => by simp [chkL] at h
  | e :: es, x :: xs, h => by
    simp only [chkL, Bool.and_eq_true] at h
    rw [List.all_cons, h.1.1, chkL_star h.2]; rfl
theorem chkL_len {ck : Ck} {sc : Scope} : ∀ {es : List E} {xs : List Expr}, chkL ck sc es xs = true → es.length = xs.length
  | [], [], _ => rfl
  | [], _ :: _, h => by simp [chkL] at h
  | _ :: _, [], h => by simp [chkL] at h
  | e :: es, x :: xs, h => by
    simp only [chkL, Bool.and_eq_true] at h
    simp [chkL_len h.2]
end HR

set_option linter.all false
set_option maxRecDepth 100000
set_option maxHeartbeats 1000000
/-! HR, part 6: more that can be walked: anything by places, enumerate of tuples, the pairs of any dict. -/
namespace HR
open PySem L2 PyProof.Rows

/-! ### anything that lies by places -/
def iAny (K : PySem.W.Frag) (tl : TE) : TI := fun σ H R => tl σ H fun x H1 => ∃ a, x = .ref a ∧ (((∃ xs, SqL K H1 a xs) ∧ R (Itl K a) H1) ∨ ((∃ xs, SqT K H1 a xs) ∧ R (Itt K a) H1))
theorem pi_any {X : L2.Cx} {tg l : Expr} {tl : TE} (hl : PE X l tl) : PI X tg l (iAny X.K tl) := by
  refine ⟨fun pins s σ H R I h => ?_⟩
  refine thn (hl.run pins s σ H _ I h) fun v s1 ⟨x, H1, I1, r1, a, e, q1⟩ => ?_
  subst e
  cases r1
  rcases q1 with ⟨⟨xs, hq⟩, q⟩ | ⟨⟨xs, hq⟩, q⟩
  · obtain ⟨its, rv, p, hz⟩ := I1.list hq
    exact wpAny_pyIter_list p.isList (pi_one (tk := s1.toks) I1 _ (turn_list a _) ⟨_, Heap.get?_push_size _ rfl, rfl, rfl⟩ q)
  · obtain ⟨its, rv, p, hz⟩ := I1.tuple hq
    exact wpAny_pyIter_tuple (show s1.heap.IsTuple a its.toArray from p) (pi_one (tk := s1.toks) I1 _ (turn_tuple a _) ⟨_, Heap.get?_push_size _ rfl, rfl, rfl⟩ q)

/-! ### enumerate of a tuple -/
def IteT (K : PySem.W.Frag) (a : Addr) : L2.It :=
  ⟨fun i H => ∃ (xs : List V) (x : V), SqT K H a xs ∧ xs[i]? = some x, fun i H v H' => ∃ T x, v = .ref T ∧ H T = none ∧ H' = upd H T (.tup [.int (i : Nat), x]) ∧ ∀ xs, SqT K H a xs → xs[i]? = some x, fun i H => ∃ xs : List V, SqT K H a xs ∧ xs.length ≤ i⟩
theorem tup_addr {X : L2.Cx} {pins : List (Addr × Obj)} {σ : L2.St} {H : Hp} {s : Shared} {a : Addr} {items : Array Value} (ht : IsTup s.heap a items) {b : Addr} {o : Obj} {n : String} (hb : s.heap.get? b = some o) (hc : o.cls = .type n) (hn : n ≠ "tuple") : a ≠ b := fun z => by
  subst z
  obtain ⟨ob, h1, h2, _⟩ := ht
  rw [hb] at h1; cases h1
  rw [hc] at h2; cases h2
  exact hn rfl
section
variable {prog : Program} {w : World} {A : Around} {E : Value → Shared → Prop} {s : Shared}
/-- enumerate of a tuple that is at its end -/
theorem pyNext_enumT_end {e it l : Addr} {i : Nat} {items : Array Value} {old : Value} {Q : Option Value → Shared → Prop} (hh : A.handled = none) (he : IsEnum s.heap e it i old)
    (hit : s.heap.IsTupleIter it l i) (hl : s.heap.IsTuple l items) (hx : items[i]? = none) (hQ : ∀ h', Heap.ExtBut it s.heap h' → Q none { s with heap := h' }) : wpAny (model prog w) A (pyNext (.ref e)) Q E s := by
  have ty : s.TypeIs (.ref e) "enumerate" := ⟨_, he, rfl⟩
  have inner : wpAny (model prog w) A.in1 (Builtin.SmallTypes.nextOf (.ref it)) (fun _ _ => False) (fun x s' => ∃ h', Heap.ExtBut it s.heap h' ∧ (∃ o a, x = .ref a ∧ h'.get? a = some o ∧ o.cls = .type "StopIteration") ∧ s' = { s with heap := h' }) s :=
    wpAny_nextOf_tuple_end hh hit hl hx fun h' x k ⟨o, ho, hc⟩ => ⟨h', k, ⟨o, x, rfl, ho, hc⟩, rfl⟩
  unfold pyNext
  refine wpAny_bind (wpAny_attempt (wpAny_callSpecial?_slot (name := Str.ofString "__next__") ty PySem.F.slot_enumerate_next (wpAny_call_entry PySem.F.slot_enumerate_next ty PySem.F.entry_enumerate_next ?_ (PySem.F.args_enumerate_next_1 _))))
  show wpAny _ _ (field (.ref e) 2 >>= _) _ _ _
  refine wpAny_bind (wpAny_field he rfl (x := .ref it) rfl ?_)
  refine wpAny_bind (wpAny_mono inner (fun _ _ z => z.elim) fun x s' ⟨h', k, ⟨o, a, ex, ho, hc⟩, es⟩ => ?_)
  subst ex es
  refine wpAny_bind (wpAny_isInstance (T := "StopIteration") (b := true) ⟨o, ho, hc⟩ isSubtype_stop ?_)
  exact wpAny_pure (hQ _ k)
end
theorem turn_enumT {P : Program} {w : World} {K : PySem.W.Frag} {elts : List Expr} {kk : Nat} {tpos : Pos} (a e it : Addr) :
    Turn P w K (.Tuple elts kk tpos) (IteT K a) [e, it] e (fun i h => (∃ old, IsEnum h e it ((i : Nat) : Int) old) ∧ h.IsTupleIter it a i ∧ e ≠ it) where
  mem := by simp
  obj := fun i h st b hb => by
    obtain ⟨⟨old, he⟩, ⟨o, ho, hc, hd⟩, _⟩ := st
    have e' : b = e ∨ b = it := by simpa using hb
    rcases e' with z | z
    · subst z; exact ⟨_, he, fun v q => nomatch q⟩
    · subst z; exact ⟨o, ho, fun v q => by rw [hd] at q; cases q⟩
  keep := fun i h h' st k => by
    obtain ⟨⟨old, he⟩, hi, hne⟩ := st
    exact ⟨⟨old, k e (by simp) _ he⟩, hi.at fun o q => k it (by simp) o q, hne⟩
  item := by
    intro X hP hw hK hc i pins s σ H E I hf st hg
    subst hP hw hK
    obtain ⟨⟨old, he⟩, hit, hne⟩ := st
    obtain ⟨xs, x, hq, hx⟩ := hg
    obtain ⟨its, rv, p, hz⟩ := I.tuple hq
    obtain ⟨u, hu, ru⟩ := rv.get hx
    have hel : e < s.heap.objs.size := Heap.lt_size he
    have hil : it < s.heap.objs.size := by obtain ⟨_, q, _⟩ := hit; exact Heap.lt_size q
    have hai : a ≠ it := by
      obtain ⟨oi, q, qc, _⟩ := id hit
      exact tup_addr (X := X) (pins := pins) (σ := σ) (H := H) p q qc (by decide)
    have hae : a ≠ e := tup_addr (X := X) (pins := pins) (σ := σ) (H := H) p he rfl (by decide)
    have hlt : i < its.toArray.size := by
      have := (List.getElem?_eq_some_iff.mp hu).1
      simpa using this
    refine wpAny_pyNext_enum_itemC (A := X.A) (Draws.tuple (A := X.A.in1) (show X.A.in1.handled = none from I.ok.hd hc) it a hai its.toArray) he ⟨hit, p⟩ hlt hne (by simp [hne, Ne.symm hae]) fun y h' tk hy ho hst hT hsz hk => ?_
    have ey : y = u := by
      have h1 : its[i]? = some y := by simpa using hy
      rw [hu] at h1; exact (Option.some.inj h1).symm
    subst ey
    refine ⟨_, rfl, wpAny_letOwnedTupleGo_enum (s := { s with heap := h', toks := tk + 1 }) ho fun h'' he' sb => ?_⟩
    have hT2 : h''.get? s.heap.objs.size = some { cls := .type "tuple", data := .seq #[.int i tk, y] } := (sb.2 _ (Nat.ne_of_gt hel)).trans hT
    have new : ObjOk X.prog X.w (upd H s.heap.objs.size (.tup [.int (i : Nat), x])) h'' s.heap.objs.size (.tup [.int (i : Nat), x]) :=
      ⟨by show 2 ≤ sizeLine; rw [sizeLine_eq]; decide, [.int i tk, y], .cons ⟨_, rfl⟩ (.cons ru .nil), ⟨_, hT2, rfl, _, rfl⟩⟩
    have I1 : Inv X pins σ (upd H s.heap.objs.size (.tup [.int (i : Nat), x])) { s with heap := h'', toks := tk + 1 } := by
      refine I.turnedNew (ch := [e, it]) (fun b ob hb q => ?_) hf (Nat.le_refl _) new
      have b1 : b ≠ e := fun z => hb (by simp [z])
      have b2 : b ≠ it := fun z => hb (by simp [z])
      exact (sb.2 b b1).trans (hk b ob b1 b2 q)
    refine ⟨.ref s.heap.objs.size, _, I1, rfl, ⟨_, x, rfl, I.hok.fresh (Nat.le_refl _), rfl, fun ys hy => by rw [I.tuple_inj hy hq]; exact hx⟩, ⟨⟨y, ?_⟩, hst.1.at fun o q => (sb.2 it (Ne.symm hne)).trans q, hne⟩, fun b hb => ?_⟩
    · have e1 : ((i + 1 : Nat) : Int) = (i : Int) + 1 := by omega
      rw [e1]; exact he'
    · have e' : b = e ∨ b = it := by simpa using hb
      have hb' : b < s.heap.objs.size := by
        rcases e' with z | z <;> rw [z] <;> assumption
      rw [upd_ne (Nat.ne_of_lt hb')]
      exact (hf b hb).1
  done := by
    intro X hP hw hK hc i pins s σ H E I hf st hg
    subst hP hw hK
    obtain ⟨⟨old, he⟩, hit, hne⟩ := st
    obtain ⟨xs, hq, hx⟩ := hg
    obtain ⟨its, rv, p, hz⟩ := I.tuple hq
    obtain ⟨f0, f1, f2, f3, f4, f5⟩ := hf it (by simp)
    have hl := rv.length
    have hT : s.TypeIs (.ref e) "enumerate" := ⟨_, he, rfl⟩
    exact pyNext_enumT_end (I.ok.hd hc) he hit p (by simp; omega) fun h' eb => ⟨rfl, I.turned (t' := s.toks) (fun b o hb q => eb b o hb q) f0 f1 f3 f4 f5⟩
  self := fun A i s Q E st h => by
    obtain ⟨⟨_, he⟩, _⟩ := st
    exact wpAny_pyIter_enum he h
theorem enum_news {v : Value} {o : Obj} {B : Heap → Prop} (bg : Begins v o B) :
    Meets (Builtin.«enumerate.__new__» ⟨[.type "enumerate", v], []⟩) (fun _ R s => B s.heap ∧
      R (.ok (.ret (.ref (s.heap.push o).objs.size))) { s with heap := (s.heap.push o).push { cls := .type "enumerate", data := .fields #[.none, .bool false, .ref s.heap.objs.size, rawInt 0, .none, .none] } }) :=
  .of_wp fun prog w A R s hyp => by
    obtain ⟨hh, gg, dd, tk, os⟩ := s
    obtain ⟨b1, hyp⟩ := hyp
    have hsub := sub_enumerate
    have step : ∀ {A' : Around} {E : Value → Shared → Prop} {Q : Value → Shared → Prop}, Q (.ref hh.objs.size) ⟨hh.push o, gg, dd, tk, os⟩ → wpAny (model prog w) A' (pyIter v) Q E ⟨hh, gg, dd, tk, os⟩ :=
      fun q => bg.iter prog w _ _ ⟨hh, gg, dd, tk, os⟩ _ b1 q
    wp_walk using step
    refine wpAny_stack_any fun st => wpAny_pure ?_
    split
    · rename_i cl _ _ _ _ _
      cases (cl == Value.type "enumerate") <;>
      · wp_walk using step
        exact ⟨_, rfl, hyp⟩
    · wp_walk using step
      exact ⟨_, rfl, hyp⟩
section
variable {prog : Program} {w : World} {A : Around} {E : Value → Shared → Prop} {s : Shared}
/-- enumerate(t) of a tuple: its two new cells -/
theorem call_enumT {t : Addr} {items : Array Value} {Q : Value → Shared → Prop} (ht : s.heap.IsTuple t items)
    (h : ∀ h', IsEnum h' (s.heap.objs.size + 1) s.heap.objs.size 0 .none → h'.IsTupleIter s.heap.objs.size t 0 → (∀ b o, s.heap.get? b = some o → h'.get? b = some o) → Q (.ref (s.heap.objs.size + 1)) { s with heap := h' }) :
    wpAny (model prog w) A (call (.type "enumerate") [.ref t]) Q E s := by
  refine callType_new PySem.F.called_enumerate (by decide) (PySem.F.typeCall_enumerate_1 _) (PySem.F.newCall_enumerate_1 _) (fun obj => PySem.F.args_object_init_2 obj _) PySem.F.entry_enumerate_new (enum_news (begins_tuple t items)) ⟨ht, ?_⟩
  have sz : (s.heap.push { cls := .type "tuple_iterator", data := .fields #[.ref t, .int 0 0] }).objs.size = s.heap.objs.size + 1 := Heap.size_push ..
  show _ ∧ _
  rw [sz]
  have en : IsEnum ((s.heap.push { cls := .type "tuple_iterator", data := .fields #[.ref t, .int 0 0] }).push { cls := .type "enumerate", data := .fields #[.none, .bool false, .ref s.heap.objs.size, rawInt 0, .none, .none] }) (s.heap.objs.size + 1) s.heap.objs.size 0 .none := by
    have z := Heap.get?_push_size (s.heap.push { cls := .type "tuple_iterator", data := .fields #[.ref t, .int 0 0] }) (o := { cls := .type "enumerate", data := .fields #[.none, .bool false, .ref s.heap.objs.size, rawInt 0, .none, .none] }) rfl
    rw [sz] at z; exact z
  exact ⟨⟨_, en, rfl⟩, h _ en ⟨_, Heap.get?_push_of_some _ (Heap.get?_push_size _ rfl), rfl, rfl⟩ fun b o x => Heap.get?_push_of_some _ (Heap.get?_push_of_some _ x)⟩
end
def iEnumA (K : PySem.W.Frag) (ta : TA) : TI := fun σ H R => ta σ H fun vs H1 => ∃ a xs, vs = [.ref a] ∧ ((SqL K H1 a xs ∧ R (Ite K a) H1) ∨ (SqT K H1 a xs ∧ R (IteT K a) H1))
theorem pi_enumA {X : L2.Cx} {e : Expr} {ta : TA} {p pos tpos : Pos} {elts : List Expr} {kk : Nat} (hg : Gl X "enumerate") (hm : X.mg "enumerate" = none) (ha : PA X [e] ta) (hs : starEach [e] X.env = [(false, eval e X.env)]) :
    PI X (.Tuple elts kk tpos) (.Call (.Name "enumerate" p) [e] [] pos) (iEnumA X.K ta) := by
  refine ⟨fun pins s σ H R I h => ?_⟩
  refine Call_ (ld_blt I hg hm boot_enumerate (PyProof.Rows.callWith_type1 (thn (ha.run pos pins s σ H _ I h) fun us s1 ⟨vs, H1, I1, r1, a, xs, ex, q1⟩ => ?_) hs rfl))
  subst ex
  cases r1 with
  | cons r rr =>
    cases rr
    cases r
    have fresh2 : ∀ b ∈ [s1.heap.objs.size + 1, s1.heap.objs.size], FpOk X pins H1 b := fun b hb => by
      have hle : s1.heap.objs.size ≤ b := by
        have e' : b = s1.heap.objs.size + 1 ∨ b = s1.heap.objs.size := by simpa using hb
        rcases e' with z | z <;> rw [z]
        · exact Nat.le_add_right _ _
        · exact Nat.le_refl _
      exact I1.fpOk hle (I1.hok.fresh hle)
    rcases q1 with ⟨hq, q⟩ | ⟨hq, q⟩
    · obtain ⟨its, rv, p', hz⟩ := I1.list hq
      refine call_enumerate_list p'.isList fun h' he hit hsz hk => wpAny_pyIter_enum he ?_
      have I2 : Inv X pins σ H1 { s1 with heap := h' } := I1.kept (t' := s1.toks) hk
      exact ⟨_, [_, _], _, _, H1, rfl, I2, turn_enum a (s1.heap.objs.size + 1) s1.heap.objs.size, ⟨⟨.none, he⟩, hit, Nat.succ_ne_self _⟩, fresh2, q⟩
    · obtain ⟨its, rv, p', hz⟩ := I1.tuple hq
      have pt : s1.heap.IsTuple a its.toArray := p'
      refine call_enumT pt fun h' he hit hk => wpAny_pyIter_enum he ?_
      have I2 : Inv X pins σ H1 { s1 with heap := h' } := I1.kept (t' := s1.toks) hk
      exact ⟨_, [_, _], _, _, H1, rfl, I2, turn_enumT a (s1.heap.objs.size + 1) s1.heap.objs.size, ⟨⟨.none, he⟩, hit, Nat.succ_ne_self _⟩, fresh2, q⟩

/-! ### the pairs of a dict, whatever its keys -/
def ItP (d : Addr) (o : Obj) (u : HO) (n : Nat) (Pr : Nat → Hp → V → V → Prop) : L2.It :=
  ⟨fun i H => H d = some (.frz o u) ∧ i < n, fun i H x H' => ∃ T a b, Pr i H a b ∧ x = .ref T ∧ H T = none ∧ H' = upd H T (.tup [a, b]), fun i H => H d = some (.frz o u) ∧ n ≤ i⟩
/-- what the locked dict's entries are -/
structure DE (d : Addr) (o : Obj) (u : HO) (es : Array DictEntry) (Pr : Nat → Hp → V → V → Prop) : Prop where
  run : ∀ {X : L2.Cx} {pins : List (Addr × Obj)} {σ : L2.St} {H : Hp} {s : Shared}, Inv X pins σ H s → H d = some (.frz o u) → (d == sysModules) = false ∧ s.heap.get? d = some o ∧ o.ExactDict ∧
    ∀ (i : Nat) (hi : i < es.size), ∃ a b, Pr i H a b ∧ RelV a es[i].key ∧ RelV b es[i].val
theorem turn_pairs {P : Program} {w : World} {K : PySem.W.Frag} {elts : List Expr} {kk : Nat} {tpos : Pos} {d : Addr} {o : Obj} {u : HO} {es : Array DictEntry} {ep : Nat} {Pr : Nat → Hp → V → V → Prop} (it : Addr) (hod : o.data = .dict es ep) (D : DE d o u es Pr) :
    Turn P w K (.Tuple elts kk tpos) (ItP d o u es.size Pr) [it] it (fun i h => ∃ ok ov, IsItemIter h it d i es.size ep ok ov) where
  mem := by simp
  obj := fun i h st b hb => by
    have e : b = it := by simpa using hb
    subst e
    obtain ⟨ok, ov, e⟩ := st
    exact ⟨_, e, fun v z => nomatch z⟩
  keep := fun i h h' st k => by
    obtain ⟨ok, ov, e⟩ := st
    exact ⟨ok, ov, k it (by simp) _ e⟩
  item := by
    intro X hP hw hK hc i pins s σ H E I hf st hg
    subst hP hw hK
    obtain ⟨hd, hi⟩ := hg
    obtain ⟨_, hgd, hx, ent⟩ := D.run I hd
    obtain ⟨a, b, pr, ra, rb⟩ := ent i hi
    obtain ⟨ok, ov, he⟩ := st
    have hlt : it < s.heap.objs.size := Heap.lt_size he
    refine wpAny_pyNext_items_item_raw he ⟨o, hgd, hx, hod⟩ hi fun h' ho hT hz hk => ?_
    refine ⟨_, rfl, wpAny_letOwnedTupleGo_items (s := { s with heap := h' }) ho fun h'' he' sb => ?_⟩
    have hT2 : h''.get? s.heap.objs.size = some { cls := .type "tuple", data := .seq #[es[i].key, es[i].val] } := (sb.2 _ (Nat.ne_of_gt hlt)).trans hT
    have new : ObjOk X.prog X.w (upd H s.heap.objs.size (.tup [a, b])) h'' s.heap.objs.size (.tup [a, b]) :=
      ⟨by show 2 ≤ sizeLine; rw [sizeLine_eq]; decide, [es[i].key, es[i].val], .cons ra (.cons rb .nil), ⟨_, hT2, rfl, _, rfl⟩⟩
    have I1 : Inv X pins σ (upd H s.heap.objs.size (.tup [a, b])) { s with heap := h'' } := by
      refine I.turnedNew (t' := s.toks) (ch := [it]) (fun c ob hb e => ?_) hf (Nat.le_refl _) new
      have ne : c ≠ it := by simpa using hb
      exact (sb.2 c ne).trans (hk c ob ne e)
    refine ⟨.ref s.heap.objs.size, _, I1, rfl, ⟨_, a, b, pr, rfl, I.hok.fresh (Nat.le_refl _), rfl⟩, ⟨_, _, he'⟩, fun c hb => ?_⟩
    have e : c = it := by simpa using hb
    rw [e, upd_ne (Nat.ne_of_lt hlt)]
    exact (hf it (by simp)).1
  done := by
    intro X hP hw hK hc i pins s σ H E I hf st hg
    subst hP hw hK
    obtain ⟨hd, hi⟩ := hg
    obtain ⟨f0, f1, f2, f3, f4, f5⟩ := hf it (by simp)
    obtain ⟨_, hgd, hx, ent⟩ := D.run I hd
    obtain ⟨ok, ov, he⟩ := st
    exact wpAny_pyNext_items_end_raw (I.ok.hd hc) he ⟨o, hgd, hx, hod⟩ hi fun h' eb => ⟨rfl, I.turned (t' := s.toks) (fun b ob hb e => eb b ob hb e) f0 f1 f3 f4 f5⟩
  self := fun A i s Q E st h => by
    obtain ⟨_, _, e⟩ := st
    exact PySem.W.kcp_self e h
def LenU (u : HO) (n : Nat) : Prop := (∃ kvs, u = .dK kvs ∧ kvs.length = n) ∨ ∃ kvs, u = .dT kvs ∧ kvs.length = n
theorem frz_dict {X : L2.Cx} {pins : List (Addr × Obj)} {σ : L2.St} {H : Hp} {s : Shared} {d : Addr} {o : Obj} {u : HO} (I : Inv X pins σ H s) (hd : H d = some (.frz o u)) (hu : (∃ kvs, u = .dK kvs) ∨ ∃ kvs, u = .dT kvs) : ∃ es ep, o.data = .dict es ep ∧ LenU u es.size := by
  rcases hu with ⟨kvs, rfl⟩ | ⟨kvs, rfl⟩
  · obtain ⟨e1, _, _, vs, kv, o', es, ep, e2, _, e3, _, ps, _⟩ := I.hok d _ hd
    rw [e1] at e2; cases e2
    have lv : es.size = vs.length := by have := ps.length; simpa using this
    have lk : kvs.length = vs.length := Paired.length kv
    exact ⟨es, ep, e3, .inl ⟨kvs, rfl, by omega⟩⟩
  · obtain ⟨e1, _, _, xs, pr, o', es, ep, e2, _, e3, he, _⟩ := I.hok d _ hd
    rw [e1] at e2; cases e2
    have l1 : es.size = xs.length := size_of_entries he
    have l2 : kvs.length = xs.length := Paired.length pr
    exact ⟨es, ep, e3, .inr ⟨kvs, rfl, by omega⟩⟩
theorem de_K {d : Addr} {o : Obj} {kvs : List (L2.Key × V)} {es : Array DictEntry} {ep : Nat} (hod : o.data = .dict es ep) : DE d o (.dK kvs) es (fun i _ a b => ∃ k, kvs[i]? = some (k, b) ∧ a = kV k) := by
  refine ⟨fun {X pins σ H s} I hd => ?_⟩
  obtain ⟨e1, _, hs, vs, kv, o', es', ep', e2, hx, e3, ke, ps, _⟩ := I.hok d _ hd
  rw [e1] at e2; cases e2
  obtain ⟨rfl, rfl⟩ := dict_ep hod e3
  refine ⟨hs, e1, hx, fun i hi => ?_⟩
  have lv : es'.size = vs.length := by have := ps.length; simpa using this
  obtain ⟨⟨k, v⟩, hkv⟩ : ∃ p, vs[i]? = some p := ⟨vs[i], List.getElem?_eq_getElem (by omega)⟩
  have lk : kvs.length = vs.length := Paired.length kv
  obtain ⟨⟨k', v'⟩, hkv'⟩ : ∃ p, kvs[i]? = some p := ⟨kvs[i], List.getElem?_eq_getElem (by omega)⟩
  obtain ⟨⟨k2, v2⟩, h2, r1, r2⟩ := paired_get kv hkv'
  rw [hkv] at h2; cases h2
  obtain ⟨z1, z2⟩ := ps.get? (i := i) (e := es'[i]) (by simp [hi]) hkv
  have r1 : k' = k := r1
  subst r1
  refine ⟨kV k', v', ⟨k', hkv', rfl⟩, relV_key (show keyIs k' es'[i].key = true from z1), ?_⟩
  rw [z2]; exact r2
theorem de_T {d : Addr} {o : Obj} {kvs : List (List L2.Key × V)} {es : Array DictEntry} {ep : Nat} (hod : o.data = .dict es ep) : DE d o (.dT kvs) es (fun i H a b => ∃ k q, kvs[i]? = some (k, b) ∧ a = .ref q ∧ H q = some (.tup (k.map kV))) := by
  refine ⟨fun {X pins σ H s} I hd => ?_⟩
  obtain ⟨e1, _, hs, xs, pr, o', es', ep', e2, hx, e3, he, _⟩ := I.hok d _ hd
  rw [e1] at e2; cases e2
  obtain ⟨rfl, rfl⟩ := dict_ep hod e3
  refine ⟨hs, e1, hx, fun i hi => ?_⟩
  have l1 : es'.size = xs.length := size_of_entries he
  have l2 : kvs.length = xs.length := Paired.length pr
  obtain ⟨⟨k, v⟩, hkv⟩ : ∃ p, kvs[i]? = some p := ⟨kvs[i], List.getElem?_eq_getElem (by omega)⟩
  obtain ⟨b, hb, e4, e5, e6⟩ := paired_get pr hkv
  have q := entry_at he i
  rw [hb] at q
  have eq : es'[i] = entryOfKey (tupleKind (mixKind X.prog X.w)) b := by
    have : es'[i]? = some es'[i] := by simp [hi]
    rw [this] at q
    simpa using q
  refine ⟨.ref b.2.1, v, ⟨k, b.2.1, hkv, rfl, e5⟩, ?_, ?_⟩
  · rw [eq]; rfl
  · rw [eq]; exact e6
def iPairs (td : TE) : TI := fun σ H R => td σ H fun x H1 => ∃ d o u, x = .ref d ∧ H1 d = some (.frz o u) ∧ ((∃ kvs, u = .dK kvs) ∨ ∃ kvs, u = .dT kvs) ∧ ∀ es ep, o.data = .dict es ep → LenU u es.size → ∃ Pr, DE d o u es Pr ∧ R (ItP d o u es.size Pr) H1
theorem pi_pairs {X : L2.Cx} {e : Expr} {td : TE} {apos cpos : Pos} {elts : List Expr} {kk : Nat} {tpos : Pos} (he : PE X e td) (hbase : attributeBase e "items" X.env (eval e X.env) = eval e X.env) (hline : (apos.endLine == cpos.line) = true) :
    PI X (.Tuple elts kk tpos) (.Call (.Attribute e "items" apos) [] [] cpos) (iPairs td) := by
  refine ⟨fun pins s σ H R I h => ?_⟩
  refine wpAny_Call_method (T := "dict") (id := "dict.items") hbase rfl hline PySem.F.plainAttrs_dict PySem.F.slot_dict_items PySem.F.type_dict_items (thn (he.run pins s σ H _ I h) fun v s1 ⟨x, H1, I1, rx, d, o, u, ex, hd, hu, q⟩ => ?_)
  subst ex
  obtain rfl : v = Value.ref d := rx
  have hgd0 : s1.heap.get? d = some o := by
    obtain ⟨e1, _⟩ := I1.hok d _ hd
    exact e1
  obtain ⟨es, ep, hod, hlen⟩ := frz_dict I1 hd hu
  obtain ⟨Pr, D, hR⟩ := q es ep hod hlen
  obtain ⟨hs, hgd, hx, ent⟩ := D.run I1 hd
  have raw : s1.heap.DictRaw d es ep := ⟨o, hgd, hx, hod⟩
  refine ⟨raw.typeIs, fun b z => by cases z; exact ⟨o, hgd, hx.2.1⟩, ?_⟩
  have I2 : Inv X pins σ H1 { s1 with heap := s1.heap.push { cls := .type "dict_items", data := .fields #[.ref d] } } := I1.kept (t' := s1.toks) fun b ob q => Heap.get?_push_of_some _ q
  have raw2 : (s1.heap.push { cls := .type "dict_items", data := .fields #[.ref d] }).DictRaw d es ep := raw.at fun o e => Heap.get?_push_of_some _ e
  have fin : wpAny (model X.prog X.w) X.A (pyIter (.ref s1.heap.objs.size)) (PIE X pins σ (.Tuple elts kk tpos) R) X.xe { s1 with heap := s1.heap.push { cls := .type "dict_items", data := .fields #[.ref d] } } :=
    wpAny_pyIter_items_raw (d := d) ⟨_, Heap.get?_push_size _ rfl, rfl, rfl⟩ raw2 (pi_one (tk := s1.toks) I2 _ (turn_pairs _ hod D) ⟨.none, .none, Heap.get?_push_size _ rfl⟩ hR)
  show wpAny _ _ (callWith cpos (.builtin "dict.items") [.ref d] [] []) _ X.xe s1
  exact method_meetsIn PySem.F.slot_dict_items PySem.F.entry_dict_items rfl (PySem.evalArgs_none ⟨rfl, raw.typeIs, PySem.F.args_dict_items_1 _, _, meets_dict_items_raw (prog := X.prog) (w := X.w) d hs, ⟨⟨es, ep, raw⟩, fin⟩⟩)
end HR

set_option linter.all false
set_option maxRecDepth 100000
set_option maxHeartbeats 1000000
/-! HR, part 6b: list(zip(x, y)) of two tuples: the pairs stay alive. -/
namespace HR
open PySem L2 PyProof.Rows

/-- a zip that has handed out a pair which is still alive -/
abbrev IsZipL (h : Heap) (z TI TO a : Addr) (b : Bool) : Prop :=
  h.get? z = some { cls := .type "zip", dict := none, data := .fields #[rawInt a, .bool b, .bool false, .ref TI, .ref TO], slots := #[] }
section
variable {prog : Program} {w : World} {A : Around} {E : Value → Shared → Prop} {s : Shared}
theorem alive_any {a : Addr} {Q : Option Obj → Shared → Prop} (h : Q (s.heap.get? a) s) : wpAny (model prog w) A (loadIfAlive a) Q E s := fun Γ p hΓ => by
  unfold loadIfAlive
  rw [Sem.wp_loadIfAlive]
  exact wpAny_pure h Γ p hΓ
theorem owned_not_free {z TI TO a : Addr} {b : Bool} {oa : Obj} {Q : Bool → Shared → Prop} (hz : IsZipL s.heap z TI TO a b) (ha : s.heap.get? a = some oa)
    (h : ∀ h', IsZipL h' z TI TO a true → Heap.SameBut z s.heap h' → Q false { s with heap := h' }) : wpAny (model prog w) A (Builtin.SmallTypes.ownedTupleIsFree (.ref z)) Q E s := by
  unfold Builtin.SmallTypes.ownedTupleIsFree
  refine wpAny_bind (wpAny_field hz rfl (x := rawInt a) rfl ?_)
  refine wpAny_bind (alive_any ?_)
  have e : (Int.toNat (a : Int)) = a := Int.toNat_natCast a
  simp only [e, ha, Option.isNone_some, Bool.false_eq_true, if_false]
  refine wpAny_bind (wpAny_field hz rfl (x := .bool b) rfl ?_)
  cases b with
  | true => exact wpAny_pure (h _ hz (Heap.SameBut.refl _ _))
  | false =>
    refine wpAny_bind (wpAny_setField_rec hz (by simp) fun h₁ hz₁ hs₁ => wpAny_pure (h h₁ hz₁ hs₁))
/-- the next pair, the last one still alive -/
theorem zipL_item {z TI TO i1 i2 l1 l2 a : Addr} {b : Bool} {oa : Obj} {k1 k2 : Nat} {xs ys : Array Value} {x y : Value} {Q : Value → Shared → Prop} (D : ZipApart z TI TO i1 i2 l1 l2)
    (hz : IsZipL s.heap z TI TO a b) (ha : s.heap.get? a = some oa) (hTI : IsPair s.heap TI (.ref i1) (.ref i2))
    (h1 : s.heap.IsTupleIter i1 l1 k1) (h2 : s.heap.IsTupleIter i2 l2 k2) (hl1 : s.heap.IsTuple l1 xs) (hl2 : s.heap.IsTuple l2 ys) (hx : xs[k1]? = some x) (hy : ys[k2]? = some y)
    (hQ : ∀ h', IsZipL h' z TI TO a true → h'.IsTupleIter i1 l1 (k1 + 1) → h'.IsTupleIter i2 l2 (k2 + 1) → IsPair h' s.heap.objs.size x y → h'.objs.size = s.heap.objs.size + 1 →
      (∀ c o, c ≠ z → c ≠ i1 → c ≠ i2 → s.heap.get? c = some o → h'.get? c = some o) → Q (.ref s.heap.objs.size) { s with heap := h' }) :
    wpAny (model prog w) A (Builtin.«zip.__next__» ⟨[.ref z], []⟩) (fun fin s' => ∃ v, fin = .done (.ret v) ∧ Q v s') E s := by
  show wpAny _ _ (field (.ref z) 2 >>= _) _ _ _
  refine wpAny_bind (wpAny_field hz rfl (x := .bool false) rfl ?_)
  show wpAny _ _ (field (.ref z) 3 >>= _) _ _ _
  refine wpAny_bind (wpAny_field hz rfl (x := .ref TI) rfl ?_)
  refine wpAny_bind (wpAny_seqItems hTI rfl ?_)
  show wpAny _ _ (Builtin.SmallTypes.ownedTupleIsFree (.ref z) >>= _) _ _ _
  refine wpAny_bind (owned_not_free hz ha fun h₁ hz₁ hs₁ => ?_)
  simp only [Bool.false_eq_true, if_false]
  simp only [← Array.forIn_toList, List.forIn_cons, List.forIn_nil]
  refine wpAny_bind ?_
  refine wpAny_bind (wpAny_bind (wpAny_holding ?_))
  show wpAny _ _ (Builtin.SmallTypes.nextOf (.ref i1) >>= _) _ _ _
  refine wpAny_bind (RZ.nextOf_tuple_item (h1.extBut hs₁.extBut D.i1z) (hl1.extBut hs₁.extBut D.l1z) hx fun h₂ h1₂ hs₂ => wpAny_pure ?_)
  refine wpAny_pure ?_
  refine wpAny_bind (wpAny_bind (wpAny_holding ?_))
  show wpAny _ _ (Builtin.SmallTypes.nextOf (.ref i2) >>= _) _ _ _
  refine wpAny_bind (RZ.nextOf_tuple_item ((h2.extBut hs₁.extBut D.i2z).extBut hs₂.extBut D.i12.symm) ((hl2.extBut hs₁.extBut D.l2z).extBut hs₂.extBut D.l2i1) hy fun h₃ h2₃ hs₃ => wpAny_pure ?_)
  refine wpAny_pure (wpAny_pure ?_)
  refine wpAny_bind (wpAny_newTuple (hsz := (by show 2 ≤ sizeLine; decide)) ?_)
  have hsz : h₃.objs.size = s.heap.objs.size := by rw [hs₃.1, hs₂.1, hs₁.1]
  have kz : z ≠ h₃.objs.size := by rw [hsz]; exact Nat.ne_of_lt (Heap.lt_size hz)
  have up : ∀ c o, c ≠ z → c ≠ i1 → c ≠ i2 → s.heap.get? c = some o → h₃.get? c = some o := fun c o c1 c2 c3 e => hs₃.extBut _ _ c3 (hs₂.extBut _ _ c2 (hs₁.extBut _ _ c1 e))
  have pu : ∀ c o, h₃.get? c = some o → (h₃.push { cls := .type "tuple", data := .seq #[x, y] }).get? c = some o := fun c o e => Heap.get?_push_of_some _ e
  refine wpAny_pure ⟨_, rfl, ?_⟩
  show Q (.ref h₃.objs.size) _
  rw [hsz]
  refine hQ _ (pu _ _ (hs₃.extBut _ _ D.i2z.symm (hs₂.extBut _ _ D.i1z.symm hz₁))) ((h1₂.extBut hs₃.extBut D.i12).at fun o e => pu _ _ e) (h2₃.at fun o e => pu _ _ e) ?_ ?_ (fun c o c1 c2 c3 e => pu _ _ (up c o c1 c2 c3 e))
  · have := Heap.get?_push_size h₃ (o := { cls := .type "tuple", data := .seq #[x, y] }) rfl
    rw [hsz] at this
    exact this
  · show (h₃.push { cls := .type "tuple", data := .seq #[x, y] }).objs.size = _
    rw [Heap.size_push, hsz]
theorem zipL_end {z TI TO i1 i2 l1 l2 a : Addr} {b : Bool} {oa : Obj} {k1 k2 : Nat} {xs ys : Array Value} {Q : Fin → Shared → Prop} (hh : A.handled = none) (D : ZipApart z TI TO i1 i2 l1 l2)
    (hz : IsZipL s.heap z TI TO a b) (ha : s.heap.get? a = some oa) (hTI : IsPair s.heap TI (.ref i1) (.ref i2))
    (h1 : s.heap.IsTupleIter i1 l1 k1) (h2 : s.heap.IsTupleIter i2 l2 k2) (hl1 : s.heap.IsTuple l1 xs) (hl2 : s.heap.IsTuple l2 ys) (hend : xs[k1]? = none ∨ ys[k2]? = none)
    (hE : ∀ h' e, (∀ c o, c ≠ z → c ≠ i1 → c ≠ i2 → s.heap.get? c = some o → h'.get? c = some o) → (∃ o, h'.get? e = some o ∧ o.cls = .type "StopIteration") → E (.ref e) { s with heap := h' }) :
    wpAny (model prog w) A (Builtin.«zip.__next__» ⟨[.ref z], []⟩) Q E s := by
  show wpAny _ _ (field (.ref z) 2 >>= _) _ _ _
  refine wpAny_bind (wpAny_field hz rfl (x := .bool false) rfl ?_)
  show wpAny _ _ (field (.ref z) 3 >>= _) _ _ _
  refine wpAny_bind (wpAny_field hz rfl (x := .ref TI) rfl ?_)
  refine wpAny_bind (wpAny_seqItems hTI rfl ?_)
  show wpAny _ _ (Builtin.SmallTypes.ownedTupleIsFree (.ref z) >>= _) _ _ _
  refine wpAny_bind (owned_not_free hz ha fun h₁ hz₁ hs₁ => ?_)
  simp only [Bool.false_eq_true, if_false]
  simp only [← Array.forIn_toList, List.forIn_cons, List.forIn_nil]
  refine wpAny_bind ?_
  refine wpAny_bind (wpAny_bind (wpAny_holding ?_))
  show wpAny _ _ (Builtin.SmallTypes.nextOf (.ref i1) >>= _) _ _ _
  cases hx : xs[k1]? with
  | none =>
    refine wpAny_bind (RZ.nextOf_tuple_end hh (h1.extBut hs₁.extBut D.i1z) (hl1.extBut hs₁.extBut D.l1z) hx fun h₂ e hs₂ he => ?_)
    exact hE h₂ e (fun c o c1 c2 c3 x => hs₂ _ _ c2 (hs₁.extBut _ _ c1 x)) he
  | some x =>
    have hy : ys[k2]? = none := by rcases hend with h | h; rw [hx] at h; cases h; exact h
    refine wpAny_bind (RZ.nextOf_tuple_item (h1.extBut hs₁.extBut D.i1z) (hl1.extBut hs₁.extBut D.l1z) hx fun h₂ h1₂ hs₂ => wpAny_pure ?_)
    refine wpAny_pure ?_
    refine wpAny_bind (wpAny_bind (wpAny_holding ?_))
    show wpAny _ _ (Builtin.SmallTypes.nextOf (.ref i2) >>= _) _ _ _
    refine wpAny_bind (RZ.nextOf_tuple_end hh ((h2.extBut hs₁.extBut D.i2z).extBut hs₂.extBut D.i12.symm) ((hl2.extBut hs₁.extBut D.l2z).extBut hs₂.extBut D.l2i1) hy fun h₃ e hs₃ he => ?_)
    exact hE h₃ e (fun c o c1 c2 c3 x => hs₃ _ _ c3 (hs₂.extBut _ _ c2 (hs₁.extBut _ _ c1 x))) he
theorem nextL_item {z TI TO i1 i2 l1 l2 a : Addr} {b : Bool} {oa : Obj} {k1 k2 : Nat} {xs ys : Array Value} {x y : Value} {Q : Option Value → Shared → Prop} (D : ZipApart z TI TO i1 i2 l1 l2)
    (hz : IsZipL s.heap z TI TO a b) (ha : s.heap.get? a = some oa) (hTI : IsPair s.heap TI (.ref i1) (.ref i2))
    (h1 : s.heap.IsTupleIter i1 l1 k1) (h2 : s.heap.IsTupleIter i2 l2 k2) (hl1 : s.heap.IsTuple l1 xs) (hl2 : s.heap.IsTuple l2 ys) (hx : xs[k1]? = some x) (hy : ys[k2]? = some y)
    (hQ : ∀ h', IsZipL h' z TI TO a true → h'.IsTupleIter i1 l1 (k1 + 1) → h'.IsTupleIter i2 l2 (k2 + 1) → IsPair h' s.heap.objs.size x y → h'.objs.size = s.heap.objs.size + 1 →
      (∀ c o, c ≠ z → c ≠ i1 → c ≠ i2 → s.heap.get? c = some o → h'.get? c = some o) → Q (some (.ref s.heap.objs.size)) { s with heap := h' }) : wpAny (model prog w) A (pyNext (.ref z)) Q E s := by
  have hT : s.TypeIs (.ref z) "zip" := ⟨_, hz, rfl⟩
  unfold pyNext
  exact wpAny_bind (wpAny_attempt (wpAny_callSpecial?_slot (name := Str.ofString "__next__") hT F.slot_zip_next (wpAny_call_entry F.slot_zip_next hT F.entry_zip_next
    (zipL_item D hz ha hTI h1 h2 hl1 hl2 hx hy fun h' a1 a3 a4 a5 a6 a7 => wpAny_pure (hQ h' a1 a3 a4 a5 a6 a7)) (F.args_zip_next_1 _))))
theorem nextL_end {z TI TO i1 i2 l1 l2 a : Addr} {b : Bool} {oa : Obj} {k1 k2 : Nat} {xs ys : Array Value} {Q : Option Value → Shared → Prop} (hh : A.handled = none) (D : ZipApart z TI TO i1 i2 l1 l2)
    (hz : IsZipL s.heap z TI TO a b) (ha : s.heap.get? a = some oa) (hTI : IsPair s.heap TI (.ref i1) (.ref i2))
    (h1 : s.heap.IsTupleIter i1 l1 k1) (h2 : s.heap.IsTupleIter i2 l2 k2) (hl1 : s.heap.IsTuple l1 xs) (hl2 : s.heap.IsTuple l2 ys) (hend : xs[k1]? = none ∨ ys[k2]? = none)
    (hQ : ∀ h', (∀ c o, c ≠ z → c ≠ i1 → c ≠ i2 → s.heap.get? c = some o → h'.get? c = some o) → Q none { s with heap := h' }) : wpAny (model prog w) A (pyNext (.ref z)) Q E s := by
  have hT : s.TypeIs (.ref z) "zip" := ⟨_, hz, rfl⟩
  unfold pyNext
  refine wpAny_bind (wpAny_attempt (wpAny_callSpecial?_slot (name := Str.ofString "__next__") hT F.slot_zip_next (wpAny_call_entry F.slot_zip_next hT F.entry_zip_next
    (zipL_end hh D hz ha hTI h1 h2 hl1 hl2 hend fun h' e hk he => ?_) (F.args_zip_next_1 _))))
  obtain ⟨o, ho, hc⟩ := he
  refine wpAny_bind (wpAny_isInstance (T := "StopIteration") (b := true) ⟨o, ho, hc⟩ isSubtype_stop ?_)
  exact wpAny_pure (hQ _ hk)
end
/-! ### the list that takes them -/
def fpZ (z TI TO i1 i2 : Addr) : List Addr := [z, TI, TO, i1, i2]
/-- list(zip(x, y)) behind some pairs -/
structure LzAt (X : L2.Cx) (pins : List (Addr × Obj)) (σ : L2.St) (H1 : Hp) (L z TI TO i1 i2 l1 l2 : Addr) (xs ys : List V) (i : Nat) (s : Shared) (H : Hp) (Ts : List Addr) : Prop where
  inv : Inv X pins σ H s
  keep : ∀ c u, H1 c = some u → H c = some u
  l0 : H1 L = none
  l : H L = some (.lst (Ts.map V.ref))
  len : Ts.length = i
  prs : ∀ (j : Nat) (T : Addr), Ts[j]? = some T → ∃ x y, xs[j]? = some x ∧ ys[j]? = some y ∧ H T = some (.tup [x, y])
  fp : ∀ b ∈ fpZ z TI TO i1 i2, FpOk X pins H b
  hTI : IsPair s.heap TI (.ref i1) (.ref i2)
  hTO : ∃ o, s.heap.get? TO = some o
  h1 : s.heap.IsTupleIter i1 l1 i
  h2 : s.heap.IsTupleIter i2 l2 i
  zz : (IsZip s.heap z TI TO .none ∧ ∃ x y, IsPair s.heap TO x y) ∨ ∃ a b, IsZipL s.heap z TI TO a b ∧ a ∈ Ts
section
variable {X : L2.Cx} {pins : List (Addr × Obj)} {σ : L2.St} {H1 H : Hp} {L z TI TO i1 i2 l1 l2 : Addr} {xs ys : List V} {i : Nat} {s : Shared} {Ts : List Addr}
theorem LzAt.alive (W : LzAt X pins σ H1 L z TI TO i1 i2 l1 l2 xs ys i s H Ts) {a : Addr} (h : a ∈ Ts) : ∃ o, s.heap.get? a = some o := by
  obtain ⟨j, hj⟩ := List.mem_iff_getElem?.mp h
  obtain ⟨x, y, _, _, e⟩ := W.prs j a hj
  obtain ⟨_, its, _, o, ho, _⟩ := W.inv.hok a _ e
  exact ⟨o, ho⟩
theorem seq_keep {K : PySem.W.Frag} {a : Addr} {xs : List V} (h : SqT K H1 a xs) (k : ∀ c u, H1 c = some u → H c = some u) : SqT K H a xs := by
  rcases h with (h | ⟨o, h⟩) | h
  · exact .inl (.inl (k _ _ h))
  · exact .inl (.inr ⟨o, k _ _ h⟩)
  · exact .inr h
/-- one pair more -/
theorem LzAt.next {A : Around} {E : Value → Shared → Prop} {Q : Option Value → Shared → Prop} (D : ZipApart z TI TO i1 i2 l1 l2) (q1 : SqT X.K H1 l1 xs) (q2 : SqT X.K H1 l2 ys) (W : LzAt X pins σ H1 L z TI TO i1 i2 l1 l2 xs ys i s H Ts) (hL : L ∉ fpZ z TI TO i1 i2) (hx : i < xs.length) (hy : i < ys.length) (hz : i < 1000)
    (h : ∀ (T : Addr) (h' : Heap) (its : List Value) (n : Nat), h'.get? L = some { cls := .type "list", data := .seq its.toArray n } → its.length = i →
      LzAt X pins σ H1 L z TI TO i1 i2 l1 l2 xs ys (i + 1) { s with heap := h'.update L (Obj.mapSeq (·.push (.ref T))) } (upd (upd H T (.tup [xs[i], ys[i]])) L (.lst ((Ts ++ [T]).map V.ref))) (Ts ++ [T]) → Q (some (.ref T)) { s with heap := h' }) :
    wpAny (model X.prog X.w) A (pyNext (.ref z)) Q E s := by
  obtain ⟨us, r1, p1, _⟩ := W.inv.tuple (seq_keep q1 W.keep)
  obtain ⟨vs, r2, p2, _⟩ := W.inv.tuple (seq_keep q2 W.keep)
  obtain ⟨u, hu, ru⟩ := r1.get (List.getElem?_eq_getElem hx)
  obtain ⟨v, hv, rv⟩ := r2.get (List.getElem?_eq_getElem hy)
  have fin : ∀ (h' : Heap) (a : Addr) (b : Bool), IsZipL h' z TI TO a b → (a ∈ Ts ∨ a = s.heap.objs.size) → h'.IsTupleIter i1 l1 (i + 1) → h'.IsTupleIter i2 l2 (i + 1) → IsPair h' s.heap.objs.size u v → h'.objs.size = s.heap.objs.size + 1 →
      (∀ c o, c ∉ fpZ z TI TO i1 i2 → s.heap.get? c = some o → h'.get? c = some o) → IsPair h' TI (.ref i1) (.ref i2) → (∃ o, h'.get? TO = some o) → Q (some (.ref s.heap.objs.size)) { s with heap := h' } := by
    intro h' a b hz' ha h1' h2' hp hsz kp hTI' hTO'
    have hT : H s.heap.objs.size = none := W.inv.hok.fresh (Nat.le_refl _)
    have new : ObjOk X.prog X.w (upd H s.heap.objs.size (.tup [xs[i], ys[i]])) h' s.heap.objs.size (.tup [xs[i], ys[i]]) :=
      ⟨by show 2 ≤ sizeLine; decide, [u, v], .cons ru (.cons rv .nil), ⟨_, hp, rfl, _, rfl⟩⟩
    have I1 : Inv X pins σ (upd H s.heap.objs.size (.tup [xs[i], ys[i]])) { s with heap := h' } := W.inv.turnedNew (t' := s.toks) (ch := fpZ z TI TO i1 i2) kp W.fp (Nat.le_refl _) new
    have hLT : L ≠ s.heap.objs.size := fun e => by rw [← e, W.l] at hT; cases hT
    have hl' : (upd H s.heap.objs.size (.tup [xs[i], ys[i]])) L = some (.lst (Ts.map V.ref)) := by rw [upd_ne hLT]; exact W.l
    obtain ⟨hzz, its, n, rl, hlen, e⟩ := I1.lstM hl'
    have hTs := W.len
    have hsl := line63
    have I2 := I1.lset (t' := s.toks) (f := (·.push (.ref s.heap.objs.size))) (its' := its ++ [.ref s.heap.objs.size]) (ys := (Ts ++ [s.heap.objs.size]).map V.ref) hl' e (by simp) (by rw [List.map_append]; exact rl.append (.cons rfl .nil)) (by rw [sizeLine_eq]; simp; omega)
    have oth : ∀ c o, c ≠ L → h'.get? c = some o → (h'.update L (Obj.mapSeq (·.push (.ref s.heap.objs.size)))).get? c = some o := fun c o hc q => (Heap.get?_update_other _ _ (Ne.symm hc)).trans q
    have hLz : ∀ b ∈ fpZ z TI TO i1 i2, b ≠ L := fun b hb z => hL (z ▸ hb)
    refine h _ h' its n e (by rw [← hlen]; simpa using hTs) ⟨I2, ?_, W.l0, upd_same, by simp [hTs], ?_, ?_, ?_, ?_, ?_, ?_, ?_⟩
    · intro c w hc
      have n1 : c ≠ L := fun q => by rw [q, W.l0] at hc; cases hc
      have hc2 := W.keep c w hc
      have n2 : c ≠ s.heap.objs.size := fun q => by rw [q, hT] at hc2; cases hc2
      rw [upd_ne n1, upd_ne n2]; exact hc2
    · intro j T hj
      by_cases hji : j < Ts.length
      · rw [List.getElem?_append_left hji] at hj
        obtain ⟨x, y, ex, ey, et⟩ := W.prs j T hj
        have n1 : T ≠ L := fun q => by rw [q, W.l] at et; cases et
        have n2 : T ≠ s.heap.objs.size := fun q => by rw [q, hT] at et; cases et
        exact ⟨x, y, ex, ey, by rw [upd_ne n1, upd_ne n2]; exact et⟩
      · have := (List.getElem?_eq_some_iff.mp hj).1
        have hje : j = i := by simp at this; omega
        subst hje
        rw [List.getElem?_append_right (by omega)] at hj
        simp [hTs] at hj
        subst hj
        exact ⟨_, _, List.getElem?_eq_getElem hx, List.getElem?_eq_getElem hy, by rw [upd_ne hLT.symm]; exact upd_same⟩
    · intro b hb
      have f := W.fp b hb
      have hlt : b ≠ s.heap.objs.size := by
        have e' : b = z ∨ b = TI ∨ b = TO ∨ b = i1 ∨ b = i2 := by simpa [fpZ] using hb
        have lt : b < s.heap.objs.size := by
          rcases e' with q | q | q | q | q
          · rw [q]
            rcases W.zz with ⟨hz, _⟩ | ⟨_, _, hz, _⟩
            · exact Heap.lt_size hz
            · exact Heap.lt_size hz
          · rw [q]; exact Heap.lt_size W.hTI
          · rw [q]; obtain ⟨_, e1⟩ := W.hTO; exact Heap.lt_size e1
          · rw [q]; obtain ⟨_, e1, _⟩ := W.h1; exact Heap.lt_size e1
          · rw [q]; obtain ⟨_, e1, _⟩ := W.h2; exact Heap.lt_size e1
        exact Nat.ne_of_lt lt
      refine ⟨?_, f.2⟩
      rw [upd_ne (hLz b hb), upd_ne hlt]
      exact f.1
    · exact oth _ _ (hLz _ (by simp [fpZ])) hTI'
    · obtain ⟨o, ho⟩ := hTO'
      exact ⟨o, oth _ _ (hLz _ (by simp [fpZ])) ho⟩
    · exact h1'.at fun o q => oth _ o (hLz _ (by simp [fpZ])) q
    · exact h2'.at fun o q => oth _ o (hLz _ (by simp [fpZ])) q
    · refine .inr ⟨a, b, oth _ _ (hLz _ (by simp [fpZ])) hz', ?_⟩
      rcases ha with q | q
      · exact List.mem_append_left _ q
      · exact List.mem_append_right _ (by simp [q])
  have hx' : us.toArray[i]? = some u := by simpa using hu
  have hy' : vs.toArray[i]? = some v := by simpa using hv
  rcases W.zz with ⟨hz, x0, y0, hTO⟩ | ⟨a, b, hz, ha⟩
  · refine RZ.pyNext_zipT_item D hz W.hTI hTO W.h1 W.h2 p1 p2 hx' hy' fun h' a1 a2 a3 a4 a5 a6 a7 => ?_
    exact fin h' _ false a1 (.inr rfl) a3 a4 a5 a6 (fun c o hc q => a7 c o (fun e => hc (by simp [fpZ, e])) (fun e => hc (by simp [fpZ, e])) (fun e => hc (by simp [fpZ, e])) (fun e => hc (by simp [fpZ, e])) q) (a7 _ _ D.TIz D.TITO D.TIi1 D.TIi2 W.hTI) ⟨_, a2⟩
  · obtain ⟨o, ho⟩ := W.alive ha
    refine nextL_item D hz ho W.hTI W.h1 W.h2 p1 p2 hx' hy' fun h' a1 a3 a4 a5 a6 a7 => ?_
    exact fin h' _ true a1 (.inl ha) a3 a4 a5 a6 (fun c o hc q => a7 c o (fun e => hc (by simp [fpZ, e])) (fun e => hc (by simp [fpZ, e])) (fun e => hc (by simp [fpZ, e])) q) (a7 _ _ D.TIz D.TIi1 D.TIi2 W.hTI) (W.hTO.imp fun o q => a7 _ _ D.TOz D.TOi1 D.TOi2 q)
theorem LzAt.done {A : Around} {E : Value → Shared → Prop} {Q : Option Value → Shared → Prop} (hh : A.handled = none) (D : ZipApart z TI TO i1 i2 l1 l2) (q1 : SqT X.K H1 l1 xs) (q2 : SqT X.K H1 l2 ys) (W : LzAt X pins σ H1 L z TI TO i1 i2 l1 l2 xs ys i s H Ts) (hend : xs.length ≤ i ∨ ys.length ≤ i)
    (h : ∀ h', Inv X pins σ H { s with heap := h' } → Q none { s with heap := h' }) : wpAny (model X.prog X.w) A (pyNext (.ref z)) Q E s := by
  obtain ⟨us, r1, p1, _⟩ := W.inv.tuple (seq_keep q1 W.keep)
  obtain ⟨vs, r2, p2, _⟩ := W.inv.tuple (seq_keep q2 W.keep)
  have e1 := r1.length
  have e2 := r2.length
  have he : us.toArray[i]? = none ∨ vs.toArray[i]? = none := by
    rcases hend with q | q
    · exact .inl (by simp; omega)
    · exact .inr (by simp; omega)
  have fin : ∀ h', (∀ c o, c ∉ fpZ z TI TO i1 i2 → s.heap.get? c = some o → h'.get? c = some o) → Q none { s with heap := h' } := fun h' kp => h h' (W.inv.turnedL (t' := s.toks) (ch := fpZ z TI TO i1 i2) kp W.fp)
  rcases W.zz with ⟨hz, x0, y0, hTO⟩ | ⟨a, b, hz, ha⟩
  · refine RZ.pyNext_zipT_end hh D hz W.hTI hTO W.h1 W.h2 p1 p2 he fun h' kp => ?_
    exact fin h' (fun c o hc q => kp c o (fun e => hc (by simp [fpZ, e])) (fun e => hc (by simp [fpZ, e])) (fun e => hc (by simp [fpZ, e])) (fun e => hc (by simp [fpZ, e])) q)
  · obtain ⟨o, ho⟩ := W.alive ha
    refine nextL_end hh D hz ho W.hTI W.h1 W.h2 p1 p2 he fun h' kp => ?_
    exact fin h' (fun c o hc q => kp c o (fun e => hc (by simp [fpZ, e])) (fun e => hc (by simp [fpZ, e])) (fun e => hc (by simp [fpZ, e])) q)
theorem lz_loop {A : Around} {R : Result → Shared → Prop} {res : Value} (hh : A.handled = none) (D : ZipApart z TI TO i1 i2 l1 l2) (q1 : SqT X.K H1 l1 xs) (q2 : SqT X.K H1 l2 ys) (hL : L ∉ fpZ z TI TO i1 i2) (hz : xs.length ≤ 1000)
    (hR : ∀ (s' : Shared) (H : Hp) (Ts : List Addr), Inv X pins σ H s' → (∀ c u, H1 c = some u → H c = some u) → H L = some (.lst (Ts.map V.ref)) → Ts.length = min xs.length ys.length → (∀ (j : Nat) (T : Addr), Ts[j]? = some T → ∃ x y, xs[j]? = some x ∧ ys[j]? = some y ∧ H T = some (.tup [x, y])) → R (.ok (.ret res)) s') :
    ∀ (k i : Nat) (s : Shared) (H : Hp) (Ts : List Addr), min xs.length ys.length - i = k → i ≤ min xs.length ys.length → LzAt X pins σ H1 L z TI TO i1 i2 l1 l2 xs ys i s H Ts →
      codeAny (model X.prog X.w) A (.builtin "list.extend.loop" ⟨[.ref L, .ref z, res], []⟩) R s := by
  intro k
  induction k with
  | zero =>
    intro i s H Ts hk hi W
    refine codeAny_builtin F.entry_extend_loop ?_
    rw [Around.under_plainId F.plain_extend_loop _]
    show wpAny _ A.in1 (pyNext (.ref z) >>= _) _ _ s
    refine wpAny_bind (W.done (show A.in1.handled = none from hh) D q1 q2 (by omega) fun h' I' => ?_)
    exact wpAny_pure (hR _ H Ts I' W.keep W.l (by rw [W.len]; omega) W.prs)
  | succ k ih =>
    intro i s H Ts hk hi W
    refine codeAny_builtin F.entry_extend_loop ?_
    rw [Around.under_plainId F.plain_extend_loop _]
    show wpAny _ A.in1 (pyNext (.ref z) >>= _) _ _ s
    refine wpAny_bind (W.next D q1 q2 hL (by omega) (by omega) (by omega) fun T h' its n e hl W2 => ?_)
    show wpAny _ A.in1 (updateSeq L (·.push (.ref T)) >>= _) _ _ _
    refine wpAny_bind ?_
    have hsl := line63
    refine wpAny_updateSeq e rfl (wpAny_pure ⟨plainId_quiet F.plain_extend_loop _, ih (i + 1) _ _ _ (by omega) (by omega) W2⟩) (by rw [sizeLine_eq]; simp; omega) (by rw [sizeLine_eq]; simp; omega)
theorem zip_no_len : typeLookup (.type "zip") "__len__" = pure none := by rw [typeLookup_type, builtinLookup_eq_fast]; kernel_rfl
theorem zip_no_hint : typeLookup (.type "zip") "__length_hint__" = pure none := by rw [typeLookup_type, builtinLookup_eq_fast]; kernel_rfl
theorem LzAt.touch (W : LzAt X pins σ H1 L z TI TO i1 i2 l1 l2 xs ys 0 s H []) (hL : L ∉ fpZ z TI TO i1 i2) {h' : Heap} {H' : Hp} (I' : Inv X pins σ H' { s with heap := h' }) (eL : H' L = some (.lst [])) (eo : ∀ c, c ≠ L → H' c = H c) (eh : ∀ c o, c ≠ L → s.heap.get? c = some o → h'.get? c = some o) :
    LzAt X pins σ H1 L z TI TO i1 i2 l1 l2 xs ys 0 { s with heap := h' } H' [] := by
  have hLz : ∀ b ∈ fpZ z TI TO i1 i2, b ≠ L := fun b hb z => hL (z ▸ hb)
  refine ⟨I', fun c u hc => ?_, W.l0, eL, rfl, fun j T hj => by simp at hj, fun b hb => ?_, eh _ _ (hLz _ (by simp [fpZ])) W.hTI, ?_, W.h1.at fun o q => eh _ o (hLz _ (by simp [fpZ])) q, W.h2.at fun o q => eh _ o (hLz _ (by simp [fpZ])) q, ?_⟩
  · have : c ≠ L := fun q => by rw [q, W.l0] at hc; cases hc
    rw [eo c this]; exact W.keep c u hc
  · have f := W.fp b hb
    exact ⟨by rw [eo b (hLz b hb)]; exact f.1, f.2⟩
  · obtain ⟨o, ho⟩ := W.hTO
    exact ⟨o, eh _ o (hLz _ (by simp [fpZ])) ho⟩
  · rcases W.zz with ⟨hz, x, y, hp⟩ | ⟨a, b, hz, ha⟩
    · exact .inl ⟨eh _ _ (hLz _ (by simp [fpZ])) hz, x, y, eh _ _ (hLz _ (by simp [fpZ])) hp⟩
    · cases ha
theorem LzAt.ty (W : LzAt X pins σ H1 L z TI TO i1 i2 l1 l2 xs ys i s H Ts) : s.TypeIs (.ref z) "zip" := by
  rcases W.zz with ⟨hz, _⟩ | ⟨_, _, hz, _⟩ <;> exact ⟨_, hz, rfl⟩
theorem lz_init {A : Around} {R : Result → Shared → Prop} (hh : A.handled = none) (D : ZipApart z TI TO i1 i2 l1 l2) (q1 : SqT X.K H1 l1 xs) (q2 : SqT X.K H1 l2 ys) (hL : L ∉ fpZ z TI TO i1 i2) (hz : xs.length ≤ 1000) (W : LzAt X pins σ H1 L z TI TO i1 i2 l1 l2 xs ys 0 s H [])
    (hR : ∀ (s' : Shared) (H : Hp) (Ts : List Addr), Inv X pins σ H s' → (∀ c u, H1 c = some u → H c = some u) → H L = some (.lst (Ts.map V.ref)) → Ts.length = min xs.length ys.length → (∀ (j : Nat) (T : Addr), Ts[j]? = some T → ∃ x y, xs[j]? = some x ∧ ys[j]? = some y ∧ H T = some (.tup [x, y])) → R (.ok (.ret .none)) s') :
    wpAny (model X.prog X.w) A.in1 (Builtin.«list.__init__» ⟨[.ref L, .ref z], []⟩)
      (fun fin s' => match fin with | .done f => R (.ok f) s' | .again c' => c'.quiet = true ∧ codeAny (model X.prog X.w) A c' R s') (fun e s' => R (.error e) s') s := by
  obtain ⟨_, its0, n0, r0, _, e0⟩ := W.inv.lstM W.l
  cases r0
  show wpAny _ A.in1 (do let old ← Builtin.List.listItems (.ref L); Builtin.List.listUpdate (.ref L) (fun _ => #[]); letGo old.toList.reverse; Builtin.List.listExtendWith (.ref L) (.ref z) .none) _ _ s
  refine wpAny_bind ?_
  unfold Builtin.List.listItems
  refine wpAny_bind (wpAny_seqItems e0 rfl (wpAny_pure ?_))
  show wpAny _ A.in1 (updateSeq L (fun _ => #[]) >>= fun _ => letGo (#[] : Array Value).toList.reverse >>= fun _ => Builtin.List.listExtendWith (.ref L) (.ref z) .none) _ _ s
  refine wpAny_bind (wpAny_updateSeq e0 rfl ?_)
  have I1 := W.inv.lset (t' := s.toks) (f := fun _ => #[]) (its' := []) (ys := []) W.l e0 rfl .nil (by simp)
  have oth : ∀ (h : Heap) (f : Obj → Obj) c o, c ≠ L → h.get? c = some o → (h.update L f).get? c = some o := fun h f c o hc q => (Heap.get?_update_other _ _ (Ne.symm hc)).trans q
  have W1 := W.touch hL I1 upd_same (fun c hc => upd_ne hc) fun c o hc q => oth _ _ c o hc q
  refine wpAny_bind (wpAny_letGo ?_)
  unfold Builtin.List.listExtendWith
  refine wpAny_bind (wpAny_typeOf W1.ty ?_)
  have hLz : L ≠ z := fun e => hL (by simp [fpZ, e])
  have g1 : Builtin.List.listSameRef (.ref L) (.ref z) = false := by simp [Builtin.List.listSameRef, hLz]
  have g2 : (Value.type "zip" == Value.type "list") = false := by decide
  have g3 : (Value.type "zip" == Value.type "tuple") = false := by decide
  simp only [g1, g2, g3, Bool.or_false, Bool.false_eq_true, if_false]
  have iter : ∀ {Q : Value → Shared → Prop} {E : Value → Shared → Prop}, Q (.ref z) { s with heap := s.heap.update L (Obj.mapSeq fun _ => #[]) } → wpAny (model X.prog X.w) A.in1 (pyIter (.ref z)) Q E { s with heap := s.heap.update L (Obj.mapSeq fun _ => #[]) } := fun {Q E} q => by
    rcases W1.zz with ⟨hz, _⟩ | ⟨_, _, hz, ha⟩
    · exact wpAny_pyIter_zip hz q
    · cases ha
  refine wpAny_bind (iter ?_)
  refine wpAny_bind (wpAny_holding ?_)
  unfold Builtin.List.listLengthHint
  refine wpAny_bind (wpAny_specialOf W1.ty zip_no_len ?_)
  show wpAny _ A.in1 (specialOf (Value.ref z) (Str.ofString "__length_hint__") >>= _) _ _ _
  refine wpAny_bind (wpAny_specialOf W1.ty zip_no_hint ?_)
  refine wpAny_pure ?_
  show wpAny _ A.in1 (rule "list.extend.makes-room" >>= fun _ => Builtin.List.listTouch (.ref L) >>= fun _ => again (.builtin "list.extend.loop" ⟨[.ref L, .ref z, .none], []⟩)) _ _ _
  refine wpAny_bind (wpAny_rule ?_)
  refine wpAny_bind ?_
  show wpAny _ A.in1 (updateSeq L (·.push .none) >>= fun _ => updateSeq L (·.pop)) _ _ _
  obtain ⟨_, its1, n1, r1, _, e1⟩ := W1.inv.lstM W1.l
  cases r1
  have I2 := W1.inv.lset (t' := s.toks) (f := (·.push Value.none)) (its' := [Value.none]) (ys := [V.non]) W1.l e1 rfl (.cons rfl .nil) (by rw [sizeLine_eq]; simp)
  refine wpAny_bind (wpAny_updateSeq e1 rfl ?_)
  obtain ⟨_, its2, n2, r2, _, e2⟩ := I2.lstM upd_same
  obtain ⟨u2, rfl, _⟩ := r2.one
  have I3 := I2.lset (t' := s.toks) (f := (·.pop)) (its' := []) (ys := []) upd_same e2 rfl .nil (by simp)
  refine wpAny_updateSeq (hz := by seq_fits) e2 rfl ?_
  have W3 := W1.touch hL I3 upd_same (fun c hc => by rw [upd_ne hc, upd_ne hc]) fun c o hc q => oth _ _ c o hc (oth _ _ c o hc q)
  exact wpAny_pure ⟨plainId_quiet F.plain_extend_loop _, lz_loop hh D q1 q2 hL hz hR _ 0 _ _ _ rfl (Nat.zero_le _) W3⟩
end
def tLz (K : PySem.W.Frag) (ta : TA) : TE := fun σ H Q => ta σ H fun vs H1 => ∃ a b xs ys, vs = [.ref a, .ref b] ∧ SqT K H1 a xs ∧ SqT K H1 b ys ∧ xs.length ≤ 1000 ∧ ∀ (H2 : Hp) (L : Addr) (Ts : List Addr), H1 L = none → (∀ c u, H1 c = some u → H2 c = some u) → H2 L = some (.lst (Ts.map V.ref)) →
  Ts.length = min xs.length ys.length → (∀ (j : Nat) (T : Addr), Ts[j]? = some T → ∃ x y, xs[j]? = some x ∧ ys[j]? = some y ∧ H2 T = some (.tup [x, y])) → Q (.ref L) H2
theorem pe_lz {X : L2.Cx} {u v : Expr} {ta : TA} {p q p2 q2 : Pos} (hg : Gl X "list") (hm : X.mg "list" = none) (hg2 : Gl X "zip") (hm2 : X.mg "zip" = none) (ha : PA X [u, v] ta) (hc : X.calm = true)
    (hs : starEach [u, v] X.env = (false, eval u X.env) :: starEach [v] X.env) (hpl : ∀ pos, (backTo pos (starEach [v] X.env)).any (·.1) = false) :
    PE X (.Call (.Name "list" p) [.Call (.Name "zip" p2) [u, v] [] q2] [] q) (tLz X.K ta) := by
  refine ⟨fun pins s σ H Q I h => ?_⟩
  refine Call_ (ld_blt I hg hm PyProof.Rows.boot_list ?_)
  refine PyProof.Rows.callWith_type1 (PyProof.Rows.args_cons ?_ rfl) rfl rfl
  refine Call_ (ld_blt I hg2 hm2 PyProof.Rows.boot_zip (PyProof.Rows.callWith_type1 (thn (ha.run q2 pins s σ H _ I h) fun us s1 ⟨vs, H1, I1, r1, q1⟩ => ?_) hs (hpl _)))
  obtain ⟨a, b, xs, ys, ex, hqx, hqy, hz, q1⟩ := q1
  subst ex
  cases r1 with
  | cons r rr =>
    cases rr with
    | cons r' rr =>
      cases rr
      cases r
      cases r'
      obtain ⟨its, rv, p1, _⟩ := I1.tuple hqx
      obtain ⟨its2, rv2, p2', _⟩ := I1.tuple hqy
      obtain ⟨o1, ho1, _⟩ := id p1
      obtain ⟨o2, ho2, _⟩ := id p2'
      refine RZ.call_zipT (show s1.heap.IsTuple a its.toArray from p1) (show s1.heap.IsTuple b its2.toArray from p2') fun h' hz' hTI hTO h1 h2 hsz hk => PyProof.Rows.args_nil ?_
      have I2 : Inv X pins σ H1 { s1 with heap := h' } := I1.kept (t' := s1.toks) hk
      have I3 : Inv X pins σ (upd H1 h'.objs.size (.lst [])) { s1 with heap := h'.push { cls := .type "list", data := .seq #[] } } := I2.lnew (its := []) (t' := s1.toks) .nil (by simp)
      have fr : ∀ c, s1.heap.objs.size ≤ c → H1 c = none := fun c hle => I1.hok.fresh hle
      have lt5 : ∀ c, c ∈ fpZ (s1.heap.objs.size + 4) (s1.heap.objs.size + 2) (s1.heap.objs.size + 3) s1.heap.objs.size (s1.heap.objs.size + 1) → s1.heap.objs.size ≤ c ∧ c < h'.objs.size := fun c hcm => by
        have e' : c = s1.heap.objs.size + 4 ∨ c = s1.heap.objs.size + 2 ∨ c = s1.heap.objs.size + 3 ∨ c = s1.heap.objs.size ∨ c = s1.heap.objs.size + 1 := by simpa [fpZ] using hcm
        have k : ∀ j : Nat, j < 5 → s1.heap.objs.size ≤ s1.heap.objs.size + j ∧ s1.heap.objs.size + j < h'.objs.size := fun j hj => ⟨Nat.le_add_right _ _, by rw [hsz]; exact Nat.add_lt_add_left hj _⟩
        rcases e' with z | z | z | z | z
        · rw [z]; exact k 4 (by decide)
        · rw [z]; exact k 2 (by decide)
        · rw [z]; exact k 3 (by decide)
        · rw [z]; exact k 0 (by decide)
        · rw [z]; exact k 1 (by decide)
      have hL : h'.objs.size ∉ fpZ (s1.heap.objs.size + 4) (s1.heap.objs.size + 2) (s1.heap.objs.size + 3) s1.heap.objs.size (s1.heap.objs.size + 1) := fun hm => Nat.lt_irrefl _ (lt5 _ hm).2
      have hL0 : H1 h'.objs.size = none := fr _ (by rw [hsz]; exact Nat.le_add_right _ _)
      have pu : ∀ c o, h'.get? c = some o → (h'.push { cls := .type "list", data := .seq #[] }).get? c = some o := fun c o e => Heap.get?_push_of_some _ e
      have W : LzAt X pins σ H1 h'.objs.size (s1.heap.objs.size + 4) (s1.heap.objs.size + 2) (s1.heap.objs.size + 3) s1.heap.objs.size (s1.heap.objs.size + 1) a b xs ys 0 { s1 with heap := h'.push { cls := .type "list", data := .seq #[] } } (upd H1 h'.objs.size (.lst [])) [] := by
        refine ⟨I3, fun c u hc => ?_, hL0, upd_same, rfl, fun j T hj => by simp at hj, fun c hcm => ?_, pu _ _ hTI, ⟨_, pu _ _ hTO⟩, h1.at fun o e => pu _ o e, h2.at fun o e => pu _ o e, .inl ⟨pu _ _ hz', _, _, pu _ _ hTO⟩⟩
        · rw [upd_ne fun e => ?_]
          · exact hc
          · rw [e, hL0] at hc; cases hc
        · have l := lt5 c hcm
          have f := I1.fpOk (b := c) l.1 (fr c l.1)
          exact ⟨by rw [upd_ne (Nat.ne_of_lt l.2)]; exact f.1, f.2⟩
      refine callType_codes (Q₁ := fun obj s₁ => obj = .ref h'.objs.size ∧ s₁ = { s1 with heap := h'.push { cls := .type "list", data := .seq #[] } }) F.called_list (F.typeCall_list_1 _) F.entry_list_init
        (code_list_new _ ⟨rfl, rfl⟩) fun obj s₁ hs₁ => ?_
      obtain ⟨rfl, rfl⟩ := hs₁
      refine ⟨⟨_, Heap.get?_push_size _ rfl, rfl⟩, F.args_list_init_2 _ _, ?_⟩
      refine lz_init (A := X.A.in1) (show X.A.in1.handled = none from I.ok.hd hc) (PySem.W.ktu_apart s1.heap.objs.size a b (Heap.lt_size ho1) (Heap.lt_size ho2)) hqx hqy hL hz W fun s' H2 Ts I' k' l' n' t' => ?_
      exact ⟨rfl, .ref h'.objs.size, H2, I', rfl, q1 H2 _ Ts hL0 k' l' n' t'⟩
end HR

set_option linter.all false
set_option maxRecDepth 100000
set_option maxHeartbeats 1000000
/-! HR, part 7: expressions without comprehensions. -/
namespace HR
open PySem L2 PyProof.Rows

theorem _root_.L2.PE.wk {X : L2.Cx} {e : Expr} {t t' : TE} (h : PE X e t) (w : ∀ σ H Q, t' σ H Q → t σ H Q) : PE X e t' := ⟨fun pins s σ H Q I q => h.run pins s σ H Q I (w σ H Q q)⟩
theorem _root_.L2.PT.wk {X : L2.Cx} {e : Expr} {t t' : TT} (h : PT X e t) (w : ∀ σ H Q, t' σ H Q → t σ H Q) : PT X e t' := ⟨fun pins s σ H Q I q => h.run pins s σ H Q I (w σ H Q q)⟩
theorem _root_.L2.PW.wk {X : L2.Cx} {e : Expr} {t t' : TT} (h : PW X e t) (w : ∀ σ H Q, t' σ H Q → t σ H Q) : PW X e t' := ⟨fun wh pins s σ H Q I q => h.run wh pins s σ H Q I (w σ H Q q)⟩
theorem _root_.L2.PA.wk {X : L2.Cx} {e : List Expr} {t t' : TA} (h : PA X e t) (w : ∀ σ H Q, t' σ H Q → t σ H Q) : PA X e t' := ⟨fun pos pins s σ H Q I q => h.run pos pins s σ H Q I (w σ H Q q)⟩
theorem _root_.L2.PO.wk {X : L2.Cx} {e : Option Expr} {t t' : TO} (h : PO X e t) (w : ∀ σ H Q, t' σ H Q → t σ H Q) : PO X e t' := ⟨fun pins s σ H Q I q => h.run pins s σ H Q I (w σ H Q q)⟩

/-! ### the promise of a def, the program around -/
def spF (C : Ct) (cx : HR.Cx) (f : Nat) : Sp := fun vs H Q E => ∃ th m ds, Sim C th H m ∧ RVs C.K th H vs ds ∧ GV C th H (cx.call f ds m) Q E
def bltNames : List Str := ["len", "sum", "min", "max", "abs", "int", "str", "tuple", "list", "dict", "sorted", "all", "any", "range", "enumerate", "zip", "isinstance", "bool"]
/-- an own exception class over ValueError, without own __init__ -/
structure ExF (K : PySem.W.Frag) (mg : Str → Option Value) (C : Addr) (x : Str) : Prop where
  g : mg x = some (.ref C)
  q : PySem.W.excIn K C [.type "ValueError", .type "Exception", .type "BaseException", .type "object"] "ValueError.__new__" = true
  k : PySem.W.keepIn K (.ref C) = true
  b : PySem.W.subIn K (.ref C) (.type "BaseException") = some true
  t : PySem.W.typeIn K (.ref C) = some (.type "type")
  e : PySem.W.exmOne K (.ref C) (.ref C) = some true
structure Gx (C : Ct) (ck : Ck) (cx : HR.Cx) (k : Nat) (X : L2.Cx) : Prop where
  hK : X.K = C.K
  tb : ck.tb = C.tb
  fnd : (C.tb.flds.map (·.2)).Nodup
  fns : ∀ (f : Nat) (x : Str), C.tb.fns.lookup f = some x → ∃ a fd ps, X.mg x = some (.ref a) ∧ PySem.W.keepIn X.K (.ref a) = true ∧ Binds X.K fd ps [] ∧ FnOk X.prog X.w X.K X.mg X.base (L2.CX X.prog X.w) k a fd ps (spF C cx f)
  cls : ∀ (c : Nat) (x : Str), C.tb.cls.lookup c = some x → X.mg x = some (.ref (C.cl c)) ∧ Cls X.K (C.cl c)
  nat : ∀ (c : Nat) (x : Str) (f : Nat) (n : Str), C.tb.cls.lookup c = some x → C.tb.flds.lookup f = some n → NoAttr X.K (C.cl c) n
  mth : ∀ (c n f : Nat) (x : Str), cx.meth c n = some f → C.tb.mts.lookup n = some x → ∃ a fd ps, Meth X.K (C.cl c) x a ∧ Binds X.K fd ps [] ∧ FnOk X.prog X.w X.K X.mg X.base (L2.CX X.prog X.w) k a fd ps (spF C cx f)
  ini : ∀ (c f : Nat), cx.init c = some f → ∃ a fd ps, Mk X.K (C.cl c) a ∧ Binds X.K fd ps [] ∧ FnOk X.prog X.w X.K X.mg X.base (L2.CX X.prog X.w) k a fd ps (spF C cx f)
  blt : ∀ x ∈ bltNames, X.mg x = none
  con : ∀ x i, (x, i) ∈ ck.gcs → ∃ t, X.mg x = some (.int i t)
  exs : ∀ (c : Nat) (x : Str), C.tb.exs.lookup c = some x → ExF X.K X.mg (C.cl c) x
structure Good (C : Ct) (ck : Ck) (cx : HR.Cx) (k : Nat) (sc : Scope) (W : WX) (X : L2.Cx) : Prop where
  gx : Gx C ck cx k X
  hN : X.N = ck.N
  hS : X.env.scope = sc
  calm : X.calm = true
  nd : X.N.Nodup
  room : Room (k + 1) X.A
  tk : Takes X W

/-! ### what an expression's result leads to -/
def tE (C : Ct) (cx : HR.Cx) (W : WX) (e : E) : TE := fun σ H Q => ∃ th r m, Sim C th H m ∧ RS C th H σ r ∧ GV C th H (evE cx e r m) Q (fun cl d H' => W cl d σ H')
abbrev GL (C : Ct) (th : List Addr) (H : Hp) (r : R (List D)) (Q : List V → Hp → Prop) (W : Value → Option Addr → Hp → Prop) : Prop :=
  Gd C th H r (fun th' H' vs ds => RVs C.K th' H' vs ds) (fun _ vs H' _ => Q vs H') W
def tL (C : Ct) (cx : HR.Cx) (W : WX) (es : List E) : TA := fun σ H Q => ∃ th r m, Sim C th H m ∧ RS C th H σ r ∧ GL C th H (evL cx es r m) Q (fun cl d H' => W cl d σ H')
abbrev GB (C : Ct) (th : List Addr) (H : Hp) (r : R Bool) (Q : Bool → Hp → Prop) (W : Value → Option Addr → Hp → Prop) : Prop :=
  Gd C th H r (fun _ _ (b : Bool) a => b = a) (fun _ b H' _ => Q b H') W
def tT (C : Ct) (cx : HR.Cx) (W : WX) (e : E) : TT := fun σ H Q => ∃ th r m, Sim C th H m ∧ RS C th H σ r ∧ GB C th H (tstE cx e r m) Q (fun cl d H' => W cl d σ H')

section wks
variable {X : L2.Cx} {C : Ct} {ck : Ck} {cx : HR.Cx} {k : Nat} {sc : Scope} {W : WX}
/-- one step: first e, then what follows -/
theorem stepE {e : E} {σ : L2.St} {H : Hp} {th : List Addr} {r : Sl} {m : Mem} {α β : Type} {f : D → Mem → R α} {Rel : List Addr → Hp → β → α → Prop} {P : List Addr → β → Hp → Mem → Prop} {Q : VK}
    (S : Sim C th H m) (rs : RS C th H σ r) (h : Gd C th H ((evE cx e r m).bind f) Rel P (fun cl d H' => W cl d σ H'))
    (next : ∀ th1 v H1 m1 d, Sim C th1 H1 m1 → RS C th1 H1 σ r → RV C.K th1 H1 v d → Pre th th1 → Keep C.K H H1 → evE cx e r m = .ok d m1 → Gd C th1 H1 (f d m1) Rel P (fun cl d H' => W cl d σ H') → Q v H1) : tE C cx W e σ H Q :=
  ⟨th, r, m, S, rs, (Gd.bind (Rel := fun th' H' v d => RV C.K th' H' v d) h).imp fun th1 v H1 m1 ⟨d, e1, p, kp, S1, rv, g⟩ => next th1 v H1 m1 d S1 (rs.mono p kp) rv p kp e1 g⟩
theorem stepL {es : List E} {σ : L2.St} {H : Hp} {th : List Addr} {r : Sl} {m : Mem} {α β : Type} {f : List D → Mem → R α} {Rel : List Addr → Hp → β → α → Prop} {P : List Addr → β → Hp → Mem → Prop} {Q : List V → Hp → Prop}
    (S : Sim C th H m) (rs : RS C th H σ r) (h : Gd C th H ((evL cx es r m).bind f) Rel P (fun cl d H' => W cl d σ H'))
    (next : ∀ th1 vs H1 m1 ds, Sim C th1 H1 m1 → RS C th1 H1 σ r → RVs C.K th1 H1 vs ds → Pre th th1 → Keep C.K H H1 → Gd C th1 H1 (f ds m1) Rel P (fun cl d H' => W cl d σ H') → Q vs H1) : tL C cx W es σ H Q :=
  ⟨th, r, m, S, rs, (Gd.bind (Rel := fun th' H' v d => RVs C.K th' H' v d) h).imp fun th1 v H1 m1 ⟨d, e1, p, kp, S1, rv, g⟩ => next th1 v H1 m1 d S1 (rs.mono p kp) rv p kp g⟩
theorem stepT {e : E} {σ : L2.St} {H : Hp} {th : List Addr} {r : Sl} {m : Mem} {α β : Type} {f : Bool → Mem → R α} {Rel : List Addr → Hp → β → α → Prop} {P : List Addr → β → Hp → Mem → Prop} {Q : Bool → Hp → Prop}
    (S : Sim C th H m) (rs : RS C th H σ r) (h : Gd C th H ((tstE cx e r m).bind f) Rel P (fun cl d H' => W cl d σ H'))
    (next : ∀ th1 (b : Bool) H1 m1, Sim C th1 H1 m1 → RS C th1 H1 σ r → Pre th th1 → Keep C.K H H1 → Gd C th1 H1 (f b m1) Rel P (fun cl d H' => W cl d σ H') → Q b H1) : tT C cx W e σ H Q :=
  ⟨th, r, m, S, rs, (Gd.bind (Rel := fun _ _ (b : Bool) a => b = a) h).imp fun th1 b H1 m1 ⟨d, e1, p, kp, S1, rv, g⟩ => by subst rv; exact next th1 b H1 m1 S1 (rs.mono p kp) p kp g⟩
theorem tL_nil {σ : L2.St} {H : Hp} {Q : List V → Hp → Prop} (h : tL C cx W [] σ H Q) : Q [] H := by
  obtain ⟨th, r, m, S, rs, g⟩ := h
  have g2 : GL C th H (.ok [] m) Q (fun cl d H' => W cl d σ H') := g
  exact g2 th H [] (Pre.refl _) (Keep.refl _ _) S RVs.nil
theorem bool_of {d : D} {v : V} {th : List Addr} {H : Hp} {b : Bool} (r : RV C.K th H v d) (h : boolOf d = some b) : v = .bl b := by
  cases r <;> simp [boolOf] at h
  subst h; rfl
theorem tT_tB {e : E} : ∀ σ H Q, tT C cx W e σ H Q → tB (tE C cx W e) σ H Q := fun σ H Q ⟨th, r, m, S, rs, h⟩ => by
  refine stepE S rs h fun th1 v H1 m1 d S1 rs1 rv p kp _ g => ?_
  obtain ⟨b, eb, g2⟩ := gd_of g
  exact ⟨b, bool_of rv eb, Gd.here S1 rfl g2⟩
theorem tT_tTest {e : E} : ∀ σ H Q, tT C cx W e σ H Q → tTest (tE C cx W e) σ H Q := tT_tB

/-! ### calls of defs, methods, classes -/
theorem run_fnS {CX : CXT} {f : Addr} {fd : FuncData} {ps : List Str} {sp : Sp} {E : XK} {pins : List (Addr × Obj)} {σ : L2.St} {H : Hp} {s : Shared} {Q : VK} {us : List Value} {vs : List V} (F : FnOk X.prog X.w X.K X.mg X.base CX k f fd ps sp) (hr : Room k X.A) (hb : Binds X.K fd ps [])
    (hx : PassesAt CX X σ E) (I : Inv X pins σ H s) (r : Vals vs us) (h : sp vs H Q E) : wpAny (model X.prog X.w) X.A (call (.ref f) us) (EP X pins σ Q) X.xe s := by
  have hl : us.length = ps.length := by rw [← r.length]; exact F.len _ _ _ _ h
  have b := hb s us I.kIn (by simpa using hl)
  rw [List.append_nil] at b
  refine wpAny_call (codeAny_mono (F.run X.A X.stack s H ⟨us, []⟩ us vs Q E hr I.env0 b r h) fun rr s' hq => ?_)
  cases rr with
  | error e => exact hx pins H s e s' I hq
  | ok fl =>
    cases fl with
    | ret u => exact I.after hq
    | next => exact False.elim hq
    | brk => exact False.elim hq
    | cont => exact False.elim hq
theorem eval_meth {o : Expr} {es : List Expr} {m : Str} {apos pos : Pos} {env : Env} (hb : attrOk o = true) (ha : es.all noStar = true) (hl : es.length < 20) (hp : (apos.endLine == pos.line) = true) :
    eval (.Call (.Attribute o m apos) es [] pos) env = (do
      let ov ← eval o env
      standAt apos.atName
      let (f, first) ← holding [ov] (getMethod ov m (do return (← importBound o env).getD true))
      callWith pos f first (backTo pos (starEach es env)) (backToKw pos (keywordEach [] env))) := by
  have form : methodCallForm (es.length + 0) (backTo pos (starEach es env)) (backToKw pos (keywordEach [] env)) = true := by
    unfold methodCallForm
    rw [star_all pos env ha]
    show (true && true && decide (es.length + 0 + 0 < 30)) = true
    simp; omega
  show (do
    let ov ← attributeBase o m env (eval o env)
    standAt apos.atName
    methodCall o m apos pos env ov (es.length + 0) (backTo pos (starEach es env)) (backToKw pos (keywordEach [] env))) = _
  rw [base_of hb]
  unfold methodCall calleeOf methodCallPos
  simp only [form, if_true, hp, Bool.not_true, Bool.false_or, pure_bind]
theorem snd_meth {n : Nat} {o : E} {es : List E} {x : Expr} {xs : List Expr} {m : Str} {apos pos : Pos} (G : Good C ck cx k sc W X) (ho : PE X x (tE C cx W o)) (hes : PA X xs (tL C cx W es)) (hm : C.tb.mts.lookup n = some m) (hnf : m ∉ C.tb.flds.map (·.2))
    (hb : attrOk x = true) (ha : xs.all noStar = true) (hl : xs.length < 20) (hp : (apos.endLine == pos.line) = true) (hlen : es.length = xs.length) : PE X (.Call (.Attribute x m apos) xs [] pos) (tE C cx W (.meth n o es)) := by
  refine ⟨fun pins s σ H Q I h => ?_⟩
  obtain ⟨th, r, mm, S, rs, h⟩ := h
  have key : tE C cx W o σ H (fun v H1 => ∃ a c dx fs nm f b fd ps, v = .ref a ∧ H1 a = some (.ins (C.cl c) dx fs) ∧ fs.lookup m = none ∧ C.tb.cls.lookup c = some nm ∧ Meth X.K (C.cl c) m b ∧ Binds X.K fd ps [] ∧
      FnOk X.prog X.w X.K X.mg X.base (L2.CX X.prog X.w) k b fd ps (spF C cx f) ∧ tL C cx W es σ H1 (fun vs H2 => spF C cx f (v :: vs) H2 Q (fun cl d H' => W cl d σ H'))) := by
    unfold evE at h
    refine stepE S rs h fun th1 v H1 m1 d S1 rs1 rv p kp _ g => ?_
    cases hc : clsOf d m1 with
    | none => rw [hc] at g; exact g.elim
    | some c =>
      rw [hc] at g
      simp only [Option.bind_some] at g
      cases hf : cx.meth c n with
      | none => rw [hf] at g; exact g.elim
      | some f =>
        rw [hf] at g
        obtain ⟨b, fd, ps, me, bi, fo⟩ := G.gx.mth c n f m hf hm
        cases rv with
        | ref hk =>
          simp only [clsOf] at hc
          split at hc
          · rename_i c' fs e
            cases hc
            obtain ⟨dx, fv, e1, fr, nm, hx⟩ := S1.get e hk
            refine ⟨_, c, dx, fv, nm, f, b, fd, ps, rfl, e1, fr.no G.gx.fnd hnf, hx, me, bi, fo, ?_⟩
            refine stepL S1 rs1 g fun th2 vs H2 m2 ds S2 rs2 rvs p2 kp2 g2 => ?_
            exact ⟨th2, m2, _, S2, .cons (.ref (p2 _ _ hk)) rvs, g2⟩
          · cases hc
        | _ => simp [clsOf] at hc
  refine PySem.W.methodCall_KW (thn (ho.run pins s σ H _ I key) fun u s1 ⟨v, H1, I1, rx, a, c, dx, fs, nm, f, b, fd, ps, ev, ea, l, hx, me, bi, fo, q⟩ => ?_) (eval_meth hb ha hl hp)
  subst ev
  obtain rfl : u = Value.ref a := rx
  refine getmeth_ok I1 ea (G.gx.cls c nm hx).2 me l ?_
  have hr : Room k X.A := G.room.mono (Nat.le_succ _)
  have pa : PassesAt (L2.CX X.prog X.w) X σ (fun cl d H' => W cl d σ H') := passAt G.tk σ
  cases xs with
  | nil =>
    cases es with
    | cons e es => cases hlen
    | nil =>
      have q2 := tL_nil q
      exact PySem.W.callWith_K0 (first := [.ref a]) I1.kIn me.kp (run_fnS (us := [.ref a]) (vs := [.ref a]) fo hr bi pa I1 (.cons rfl .nil) q2)
  | cons y ys =>
    rw [List.all_cons, Bool.and_eq_true] at ha
    refine PySem.W.callWith_K (first := [.ref a]) (h₀ := X.base) I.ok.mod.kin me.kp (thn (hes.run pos pins s1 σ H1 _ I1 q) fun us s2 ⟨vs, H2, I2, rr, q2⟩ => ⟨I2.kIn, ?_⟩) (star_of ha.1 _ _) (star_any _ _ ha.2)
    exact run_fnS (us := .ref a :: us) (vs := .ref a :: vs) fo hr bi pa I2 (.cons rfl rr) q2
theorem snd_call {f : Nat} {es : List E} {xs : List Expr} {x : Str} {p pos : Pos} (G : Good C ck cx k sc W X) (hes : PA X xs (tL C cx W es)) (hf : C.tb.fns.lookup f = some x) (hg : isGl sc x = true) (hpn : plainN x = true) (ha : xs.all noStar = true) (hlen : es.length = xs.length) :
    PE X (.Call (.Name x p) xs [] pos) (tE C cx W (.call f es)) := by
  obtain ⟨a, fd, ps, hm, hk, bi, fo⟩ := G.gx.fns f x hf
  have gl : Gl X x := by
    have := gl_of hg
    unfold Gl
    show X.env.scope.names.lookup x = _
    rw [G.hS]; exact this
  have hr : Room k X.A := G.room.mono (Nat.le_succ _)
  refine ⟨fun pins s σ H Q I h => ?_⟩
  obtain ⟨th, r, mm, S, rs, h⟩ := h
  have pa : PassesAt (L2.CX X.prog X.w) X σ (fun cl d H' => W cl d σ H') := passAt G.tk σ
  have key : tL C cx W es σ H (fun vs H2 => spF C cx f vs H2 Q (fun cl d H' => W cl d σ H')) := by
    unfold evE at h
    refine stepL S rs h fun th2 vs H2 m2 ds S2 rs2 rvs p2 kp2 g2 => ⟨th2, m2, ds, S2, rvs, g2⟩
  refine wpAny_Call_Name_kw (ld_glob I gl hm ?_ (plain_of hpn).1)
  cases xs with
  | nil =>
    cases es with
    | cons e es => cases hlen
    | nil =>
      have q2 := tL_nil key
      exact PySem.W.callWith_K0 I.kIn hk (run_fnS (us := []) (vs := []) fo hr bi pa I .nil q2)
  | cons y ys =>
    rw [List.all_cons, Bool.and_eq_true] at ha
    refine PySem.W.callWith_K (h₀ := X.base) I.ok.mod.kin hk (thn (hes.run pos pins s σ H _ I key) fun us s2 ⟨vs, H2, I2, rr, q2⟩ => ⟨I2.kIn, ?_⟩) (star_of ha.1 _ _) (star_any _ _ ha.2)
    exact run_fnS fo hr bi pa I2 rr q2
theorem snd_make {c : Nat} {es : List E} {xs : List Expr} {x : Str} {p pos : Pos} (G : Good C ck cx k sc W X) (hes : PA X xs (tL C cx W es)) (hc : C.tb.cls.lookup c = some x) (hg : isGl sc x = true) (hpn : plainN x = true) (ha : xs.all noStar = true) (hlen : es.length = xs.length) :
    PE X (.Call (.Name x p) xs [] pos) (tE C cx W (.make c es)) := by
  have gl : Gl X x := by
    have := gl_of hg
    unfold Gl
    show X.env.scope.names.lookup x = _
    rw [G.hS]; exact this
  refine ⟨fun pins s σ H Q I h => ?_⟩
  obtain ⟨th, r, mm, S, rs, h⟩ := h
  have pa : PassesAt (L2.CX X.prog X.w) X σ (fun cl d H' => W cl d σ H') := passAt G.tk σ
  unfold evE at h
  cases hi : cx.init c with
  | none => rw [hi] at h; exact h.elim
  | some f =>
    rw [hi] at h
    obtain ⟨a, fd, ps, M, bi, fo⟩ := G.gx.ini c f hi
    have key : tL C cx W es σ H (fun vs H2 => ∀ y dx, H2 y = none → H2 dx = none → dx ≠ y → spF C cx f (.ref y :: vs) (upd (upd H2 dx (.own y)) y (.ins (C.cl c) dx [])) (fun v H3 => v = .non ∧ Q (.ref y) H3) (fun cl d H' => W cl d σ H')) := by
      refine stepL S rs h fun th2 vs H2 m2 ds S2 rs2 rvs p2 kp2 g2 y dx hy hd hne => ?_
      have k1 : Keep C.K H2 (upd H2 dx (.own y)) := keep_upd (.inr hd)
      have S3 : Sim C th2 (upd H2 dx (.own y)) m2 := S2.mono k1 fun a ha => upd_ne fun z => S2.fresh hd (z ▸ ha)
      have hy2 : (upd H2 dx (.own y)) y = none := by rw [upd_ne hne.symm]; exact hy
      have k2 : Keep C.K (upd H2 dx (.own y)) (upd (upd H2 dx (.own y)) y (.ins (C.cl c) dx [])) := keep_upd (.inr hy2)
      have S4 : Sim C (th2 ++ [y]) (upd (upd H2 dx (.own y)) y (.ins (C.cl c) dx [])) (m2 ++ [.ins c []]) := S3.new hy2 k2 ⟨dx, [], upd_same, .nil, x, hc⟩
      have hidx : (th2 ++ [y])[m2.length]? = some y := by rw [← S2.len, List.getElem?_append_right (Nat.le_refl _)]; simp
      refine ⟨th2 ++ [y], m2 ++ [.ins c []], .ref m2.length :: ds, S4, .cons (.ref hidx) (rvs.mono (Pre.snoc _ _) (k1.trans k2)), ?_⟩
      have g3 := Gd.shift (Pre.snoc th2 y) (k1.trans k2) g2
      refine (Gd.bind (Rel := fun th' H' v d => RV C.K th' H' v d) g3).imp fun th4 v H4 m4 ⟨d, e4, p4, kp4, S5, rv, g4⟩ => ?_
      cases rv with
      | non => exact ⟨rfl, gv_here S5 (.ref (p4 _ _ hidx)) g4⟩
      | _ => exact g4.elim
    refine wpAny_Call_Name_kw (ld_glob I gl (G.gx.cls c x hc).1 ?_ (plain_of hpn).1)
    have fin : ∀ {s2 : Shared} {H2 : Hp} {us : List Value} {vs : List V}, Inv X pins σ H2 s2 → Vals vs us → (∀ y dx, H2 y = none → H2 dx = none → dx ≠ y → spF C cx f (.ref y :: vs) (upd (upd H2 dx (.own y)) y (.ins (C.cl c) dx [])) (fun v H3 => v = .non ∧ Q (.ref y) H3) (fun cl d H' => W cl d σ H')) →
        wpAny (model X.prog X.w) X.A (call (.ref (C.cl c)) us) (EP X pins σ Q) X.xe s2 := by
      intro s2 H2 us vs I2 rr q2
      have q3 := q2 (s2.heap.objs.size + 1) s2.heap.objs.size (I2.hok.fresh (Nat.le_succ _)) (I2.hok.fresh (Nat.le_refl _)) (Nat.ne_of_lt (Nat.lt_succ_self _))
      have I3 := Inv.made (C := C.cl c) I2
      have r3 : Vals (V.ref (s2.heap.objs.size + 1) :: vs) (Value.ref (s2.heap.objs.size + 1) :: us) := .cons rfl rr
      have hl : (Value.ref (s2.heap.objs.size + 1) :: us).length = ps.length := by rw [← r3.length]; exact fo.len _ _ _ _ q3
      have b := bi { s2 with heap := _ } (Value.ref (s2.heap.objs.size + 1) :: us) I3.kIn (by simpa using hl)
      rw [List.append_nil] at b
      refine wpAny_call (make_map (f := a) I2.kIn M.makes M.init (beq_iff_eq.mp M.fn) (codeAny_mono (fo.run _ X.stack _ _ ⟨Value.ref (s2.heap.objs.size + 1) :: us, []⟩ (Value.ref (s2.heap.objs.size + 1) :: us) _ _ (fun cl d H' => W cl d σ H') (G.room.make (C.cl c) us [])
        (I3.env0.make (C.cl c) us []) b r3 q3) fun rx s' hq' => ?_))
      cases rx with
      | error e => exact pa pins _ _ e s' I3 hq'
      | ok fl =>
        cases fl with
        | ret u =>
          obtain ⟨v, H', I4, rv, ev, q5⟩ := I3.after hq'
          subst ev
          exact ⟨rv, ⟨V.ref (s2.heap.objs.size + 1), H', I4, rfl, q5⟩⟩
        | next => exact False.elim hq'
        | brk => exact False.elim hq'
        | cont => exact False.elim hq'
    cases xs with
    | nil =>
      cases es with
      | cons e es => cases hlen
      | nil =>
        have q2 := tL_nil key
        exact PySem.W.callWith_K0 I.kIn M.kp (fin (us := []) (vs := []) I .nil q2)
    | cons y ys =>
      rw [List.all_cons, Bool.and_eq_true] at ha
      refine PySem.W.callWith_K (h₀ := X.base) I.ok.mod.kin M.kp (thn (hes.run pos pins s σ H _ I key) fun us s2 ⟨vs, H2, I2, rr, q2⟩ => ⟨I2.kIn, ?_⟩) (star_of ha.1 _ _) (star_any _ _ ha.2)
      exact fin I2 rr q2
end wks
end HR

set_option linter.all false
set_option maxRecDepth 100000
set_option maxHeartbeats 1000000
/-! HR, part 8: built-in functions and methods; what is walked. -/
namespace HR
open PySem L2 PyProof.Rows

section vals
variable {C : Ct} {th : List Addr} {H : Hp} {m : Mem} {Q : VK} {W : Value → Option Addr → Hp → Prop}
/-! max and min of a tuple of ints -/
def rMaxT (K : PySem.W.Frag) : List V → Hp → VK → Prop := fun vs H Q => ∃ (a : Addr) (n : Int) (ns : List Int), vs = [V.ref a] ∧ SqT K H a ((n :: ns).map V.int) ∧ Q (.int (ns.foldl max n)) H
def rMinT (K : PySem.W.Frag) : List V → Hp → VK → Prop := fun vs H Q => ∃ (a : Addr) (n : Int) (ns : List Int), vs = [V.ref a] ∧ SqT K H a ((n :: ns).map V.int) ∧ Q (.int (ns.foldl min n)) H
theorem dp_ints {K : PySem.W.Frag} {H : Hp} : ∀ ns : List Int, DpAll K H (ns.map V.int) (ns.map PyData.int)
  | [] => .nil
  | n :: ns => .cons (.int n) (dp_ints ns)
theorem alike_ints (ns : List Int) : PySem.W.AlikeAll (ns.map PyData.int) := by
  refine ⟨fun x hx y hy => ?_, fun x hx => ?_⟩
  · obtain ⟨a, _, rfl⟩ := List.mem_map.mp hx
    obtain ⟨b, _, rfl⟩ := List.mem_map.mp hy
    rfl
  · obtain ⟨a, _, rfl⟩ := List.mem_map.mp hx
    exact fun z => nomatch z
theorem depth_ints (ns : List Int) : PyData.depthAll (ns.map PyData.int) = 0 := by
  induction ns with
  | nil => rfl
  | cons n ns ih => simp [PyData.depthAll, PyData.depth, ih]
theorem cr_maxT {X : L2.Cx} (hc : X.calm = true) (hu : X.A.units + 65 < cLine) : CallR X (.builtin "max") (rMaxT X.K) := by
  intro pins s σ H vs us Q I r h
  obtain ⟨a, n, ns, rfl, hs, q⟩ := h
  obtain ⟨its, rv, hl, _⟩ := I.tuple hs
  rw [Vals.ref1 r]
  obtain ⟨as, rd⟩ := Dp.readsAll I _ _ its (dp_ints (n :: ns)) rv
  have hdp := depth_ints (n :: ns)
  simp only [List.map_cons] at rd hdp
  refine PySem.W.max_tuple_data (I.ok.hd hc) hl (by simpa using rd) (alike_ints (n :: ns)) (by rw [hdp]; omega) fun i v h' tk bs _ hr hk => ?_
  rw [PySem.W.maxD_ints] at hr
  cases hr
  exact ⟨.int _, H, I.kept hk, ⟨_, rfl⟩, q⟩
theorem cr_minT {X : L2.Cx} (hc : X.calm = true) (hu : X.A.units + 65 < cLine) : CallR X (.builtin "min") (rMinT X.K) := by
  intro pins s σ H vs us Q I r h
  obtain ⟨a, n, ns, rfl, hs, q⟩ := h
  obtain ⟨its, rv, hl, _⟩ := I.tuple hs
  rw [Vals.ref1 r]
  obtain ⟨as, rd⟩ := Dp.readsAll I _ _ its (dp_ints (n :: ns)) rv
  have hdp := depth_ints (n :: ns)
  simp only [List.map_cons] at rd hdp
  refine PySem.W.min_tuple_data (I.ok.hd hc) hl (by simpa using rd) (alike_ints (n :: ns)) (by rw [hdp]; omega) fun i v h' tk bs _ hr hk => ?_
  rw [PySem.W.minD_ints] at hr
  cases hr
  exact ⟨.int _, H, I.kept hk, ⟨_, rfl⟩, q⟩
def rBlt (K : PySem.W.Frag) (b : B) : List V → Hp → VK → Prop :=
  match b with
  | .len => fun xs H Q => ∃ p ys, xs = [V.ref p] ∧ (SqL K H p ys ∨ SqT K H p ys) ∧ Q (V.int ys.length) H
  | .sum => rSum K
  | .max => fun xs H Q => rMax K xs H Q ∨ rMaxT K xs H Q
  | .min => fun xs H Q => rMin K xs H Q ∨ rMinT K xs H Q
  | .max2 => fun xs H Q => ∃ i j, xs = [V.int i, V.int j] ∧ Q (V.int (if j > i then j else i)) H
  | .min2 => fun xs H Q => ∃ i j, xs = [V.int i, V.int j] ∧ Q (V.int (if j < i then j else i)) H
  | .abs => fun xs H Q => ∃ i, xs = [V.int i] ∧ Q (V.int (if i < 0 then -i else i)) H
  | .int => fun xs H Q => (∃ i, xs = [V.int i] ∧ Q (V.int i) H) ∨ ∃ k, xs = [V.bl k] ∧ Q (V.int (if k = true then 1 else 0)) H
  | .tuple => fun xs H Q => ∃ p ys, xs = [V.ref p] ∧ ((SqL K H p ys ∧ ∀ l : Addr, H l = none → Q (V.ref l) (upd H l (HO.tup ys))) ∨ SqT K H p ys ∧ Q (V.ref p) H)
  | .list => fun xs H Q => ∃ p ys, xs = [V.ref p] ∧ (SqL K H p ys ∨ SqT K H p ys) ∧ ∀ l : Addr, H l = none → Q (V.ref l) (upd H l (HO.lst ys))
  | .all => rAll K
  | .any => rAny K
  | .dict => fun xs H Q => ∃ (a : Addr) (kvs : List (L2.Key × V)), xs = [.ref a] ∧ Rd H a (.dK kvs) ∧ ∀ p, H p = none → Q (.ref p) (upd H p (.dK kvs))
  | _ => fun _ _ _ => False
theorem foldl_max (ns : List Int) : ∀ n : Int, (ns.foldl max n ∈ n :: ns) ∧ ∀ y ∈ n :: ns, y ≤ ns.foldl max n := by
  induction ns with
  | nil => intro n; simp
  | cons a ns ih =>
    intro n
    obtain ⟨h1, h2⟩ := ih (max n a)
    rw [List.foldl_cons]
    refine ⟨?_, fun y hy => ?_⟩
    · rcases List.mem_cons.mp h1 with z | z
      · rw [z]
        rcases Int.le_total n a with q | q
        · rw [Int.max_eq_right q]; simp
        · rw [Int.max_eq_left q]; simp
      · exact List.mem_cons_of_mem _ (List.mem_cons_of_mem _ z)
    · have h3 := h2 (max n a) (List.mem_cons_self)
      rcases List.mem_cons.mp hy with z | z
      · rw [z]; omega
      · rcases List.mem_cons.mp z with z | z
        · rw [z]; omega
        · exact h2 y (List.mem_cons_of_mem _ z)
theorem foldl_min (ns : List Int) : ∀ n : Int, (ns.foldl min n ∈ n :: ns) ∧ ∀ y ∈ n :: ns, ns.foldl min n ≤ y := by
  induction ns with
  | nil => intro n; simp
  | cons a ns ih =>
    intro n
    obtain ⟨h1, h2⟩ := ih (min n a)
    rw [List.foldl_cons]
    refine ⟨?_, fun y hy => ?_⟩
    · rcases List.mem_cons.mp h1 with z | z
      · rw [z]
        rcases Int.le_total n a with q | q
        · rw [Int.min_eq_left q]; simp
        · rw [Int.min_eq_right q]; simp
      · exact List.mem_cons_of_mem _ (List.mem_cons_of_mem _ z)
    · have h3 := h2 (min n a) (List.mem_cons_self)
      rcases List.mem_cons.mp hy with z | z
      · rw [z]; omega
      · rcases List.mem_cons.mp z with z | z
        · rw [z]; omega
        · exact h2 y (List.mem_cons_of_mem _ z)
theorem Sim.ints (S : Sim C th H m) {k : Nat} {a : Addr} {ns : List Int} (ha : th[k]? = some a) (h : (HR.listAt m k).bind intsOf = some ns) : SqL C.K H a (ns.map V.int) := by
  cases e : HR.listAt m k with
  | none => simp [e] at h
  | some ds =>
    simp [e] at h
    obtain ⟨xs, f, q⟩ := S.listAt ha e
    rw [← q.intsOf h]
    exact .inl (.inl f)
theorem Sim.bools (S : Sim C th H m) {k : Nat} {a : Addr} {ns : List Bool} (ha : th[k]? = some a) (h : (HR.listAt m k).bind boolsOf = some ns) : SqL C.K H a (ns.map V.bl) := by
  cases e : HR.listAt m k with
  | none => simp [e] at h
  | some ds =>
    simp [e] at h
    obtain ⟨xs, f, q⟩ := S.listAt ha e
    rw [← q.boolsOf h]
    exact .inl (.inl f)
theorem bltV_rule (S : Sim C th H m) {vs : List V} {ds : List D} (r : RVs C.K th H vs ds) (b : B) (h : GV C th H (bltV b ds m) Q W) : rBlt C.K b vs H Q := by
  cases r with
  | nil => cases b <;> exact h.elim
  | cons r1 rt =>
    rename_i v vs d ds
    cases rt with
    | nil =>
      cases b with
      | len =>
        cases r1 with
        | ref ha =>
          simp only [bltV] at h
          split at h
          · rename_i xs e
            obtain ⟨ws, f, q⟩ := S.lst ha e
            exact ⟨_, ws, rfl, .inl (.inl (.inl f)), by rw [q.length]; exact gv_here S (.int _) h⟩
          · exact h.elim
        | tup e q => exact ⟨_, _, rfl, .inr (.inl (.inl e)), by rw [q.length]; exact gv_here S (.int _) h⟩
        | scr e =>
          refine ⟨_, _, rfl, .inl e.sq, ?_⟩
          rw [List.length_map]
          exact gv_here S (.int _) h
        | _ => exact h.elim
      | sum =>
        cases r1 with
        | ref ha =>
          simp only [bltV] at h
          split at h
          · rename_i ns e
            exact ⟨_, ns, rfl, S.ints ha e, gv_here S (.int _) h⟩
          · exact h.elim
        | _ => exact h.elim
      | max =>
        cases r1 with
        | ref ha =>
          simp only [bltV] at h
          split at h
          · rename_i n ns e
            obtain ⟨f1, f2⟩ := foldl_max ns n
            refine .inl ⟨_, n :: ns, rfl, S.ints ha e, by simp, fun y hy hle => ?_⟩
            have : y = ns.foldl max n := Int.le_antisymm (f2 y hy) (hle _ f1)
            rw [this]; exact gv_here S (.int _) h
          · exact h.elim
        | tup e q =>
          simp only [bltV] at h
          split at h
          · rename_i n ns e2
            exact .inr ⟨_, n, ns, rfl, by rw [← q.intsOf e2]; exact .inl (.inl e), gv_here S (.int _) h⟩
          · exact h.elim
        | _ => exact h.elim
      | min =>
        cases r1 with
        | ref ha =>
          simp only [bltV] at h
          split at h
          · rename_i n ns e
            obtain ⟨f1, f2⟩ := foldl_min ns n
            refine .inl ⟨_, n :: ns, rfl, S.ints ha e, by simp, fun y hy hle => ?_⟩
            have : y = ns.foldl min n := Int.le_antisymm (hle _ f1) (f2 y hy)
            rw [this]; exact gv_here S (.int _) h
          · exact h.elim
        | tup e q =>
          simp only [bltV] at h
          split at h
          · rename_i n ns e2
            exact .inr ⟨_, n, ns, rfl, by rw [← q.intsOf e2]; exact .inl (.inl e), gv_here S (.int _) h⟩
          · exact h.elim
        | _ => exact h.elim
      | abs =>
        cases r1 with
        | int i => exact ⟨i, rfl, gv_here S (.int _) h⟩
        | _ => exact h.elim
      | int =>
        cases r1 with
        | int i => exact .inl ⟨i, rfl, gv_here S (.int _) h⟩
        | bl b => exact .inr ⟨b, rfl, gv_here S (.int _) h⟩
        | _ => exact h.elim
      | tuple =>
        cases r1 with
        | tup e q => exact ⟨_, _, rfl, .inr ⟨.inl (.inl e), gv_here S (.tup e q) h⟩⟩
        | ref ha =>
          simp only [bltV] at h
          split at h
          · rename_i xs e
            obtain ⟨ws, f, q⟩ := S.lst ha e
            exact ⟨_, ws, rfl, .inl ⟨.inl (.inl f), fun l hl => gd_tup S q h hl⟩⟩
          · exact h.elim
        | _ => exact h.elim
      | list =>
        simp only [bltV] at h
        split at h
        · rename_i xs e
          obtain ⟨a, ws, rfl, hs, q⟩ := seq_of S r1 e
          exact ⟨a, ws, rfl, hs, fun l hl => gd_newL S q h hl⟩
        · exact h.elim
      | all =>
        cases r1 with
        | ref ha =>
          simp only [bltV] at h
          split at h
          · rename_i ns e
            exact ⟨_, ns, rfl, S.bools ha e, gv_here S (.bl _) h⟩
          · exact h.elim
        | _ => exact h.elim
      | any =>
        cases r1 with
        | ref ha =>
          simp only [bltV] at h
          split at h
          · rename_i ns e
            exact ⟨_, ns, rfl, S.bools ha e, gv_here S (.bl _) h⟩
          · exact h.elim
        | _ => exact h.elim
      | dict =>
        cases r1 with
        | ref ha =>
          simp only [bltV] at h
          split at h
          · rename_i lk kvs e
            obtain ⟨kv, rd, q, _⟩ := S.dK ha e
            exact ⟨_, kv, rfl, rd, fun p hp => gd_new S h hp ⟨kv, by simp [upd_same], q.mono (Pre.snoc _ _) (keep_upd (.inr hp))⟩⟩
          · exact h.elim
        | _ => exact h.elim
      | _ => first | (cases r1 <;> exact h.elim) | exact h.elim
    | cons r2 rt2 =>
      cases rt2 with
      | nil =>
        cases b with
        | max2 =>
          cases r1 with
          | int i =>
            cases r2 with
            | int j => exact ⟨i, j, rfl, gv_here S (.int _) h⟩
            | _ => exact h.elim
          | _ => cases r2 <;> exact h.elim
        | min2 =>
          cases r1 with
          | int i =>
            cases r2 with
            | int j => exact ⟨i, j, rfl, gv_here S (.int _) h⟩
            | _ => exact h.elim
          | _ => cases r2 <;> exact h.elim
        | _ => first | (cases r1 <;> exact h.elim) | (cases r1 <;> cases r2 <;> exact h.elim) | exact h.elim
      | cons r3 rt3 =>
        cases b <;> first | exact h.elim | (cases r1 <;> exact h.elim) | (cases r1 <;> cases r2 <;> exact h.elim)
end vals
section
variable {X : L2.Cx} {C : Ct} {ck : Ck} {cx : HR.Cx} {k : Nat} {sc : Scope} {W : WX}
theorem Good.gl (G : Good C ck cx k sc W X) {x : Str} (h : isGl sc x = true) : Gl X x := by
  have := gl_of h
  unfold Gl
  show X.env.scope.names.lookup x = _
  rw [G.hS]; exact this
theorem pe_blt (G : Good C ck cx k sc W X) {b : B} {e : Expr} {es : List Expr} {p pos : Pos} {t : TA} (hg : isGl sc (bName b) = true) (hbo : bOk b = true) (ha : PA X (e :: es) t) (hst : (e :: es).all noStar = true) : PE X (.Call (.Name (bName b) p) (e :: es) [] pos) (tCB (rBlt X.K b) t) := by
  have g := G.gl hg
  have mn : ∀ x ∈ bltNames, X.mg x = none := G.gx.blt
  rw [List.all_cons, Bool.and_eq_true] at hst
  have h1 := star_of hst.1 es X.env
  have h2 := star_any pos X.env hst.2
  have hc := G.calm
  cases b with
  | len => exact pe_callB call_len_seq g (mn "len" (by decide)) (by decide +kernel) ha (by decide) (by decide) h1 h2
  | sum => exact pe_callB (cr_sum hc) g (mn "sum" (by decide)) (by decide +kernel) ha (by decide) (by decide) h1 h2
  | max => exact pe_callB ((cr_max hc).or (cr_maxT hc (by have := G.room.un; omega))) g (mn "max" (by decide)) (by decide +kernel) ha (by decide) (by decide) h1 h2
  | min => exact pe_callB ((cr_min hc).or (cr_minT hc (by have := G.room.un; omega))) g (mn "min" (by decide)) (by decide +kernel) ha (by decide) (by decide) h1 h2
  | max2 => exact pe_callB (call_max2 hc) g (mn "max" (by decide)) (by decide +kernel) ha (by decide) (by decide) h1 h2
  | min2 => exact pe_callB (call_min2 hc) g (mn "min" (by decide)) (by decide +kernel) ha (by decide) (by decide) h1 h2
  | abs => exact pe_callB call_abs g (mn "abs" (by decide)) (by decide +kernel) ha (by decide) (by decide) h1 h2
  | all => exact pe_callB (cr_all hc) g (mn "all" (by decide)) (by decide +kernel) ha (by decide) (by decide) h1 h2
  | any => exact pe_callB (cr_any hc) g (mn "any" (by decide)) (by decide +kernel) ha (by decide) (by decide) h1 h2
  | int => exact pe_callTy call_int1 g (mn "int" (by decide)) (by decide +kernel) ha (by decide) (by decide) h1 h2
  | tuple => exact pe_callTy call_tuple_of g (mn "tuple" (by decide)) (by decide +kernel) ha (by decide) (by decide) h1 h2
  | list => exact pe_callTy call_list_of g (mn "list" (by decide)) (by decide +kernel) ha (by decide) (by decide) h1 h2
  | str => cases hbo
  | sorted => cases hbo
  | dict => exact pe_callTy call_dictD g (mn "dict" (by decide)) (by decide +kernel) ha (by decide) (by decide) h1 h2
  | listRange => cases hbo
theorem snd_blt (G : Good C ck cx k sc W X) {b : B} {es : List E} {xs : List Expr} {p pos : Pos} (hes : PA X xs (tL C cx W es)) (hg : isGl sc (bName b) = true) (hbo : bOk b = true) (hne : xs.isEmpty = false) (ha : xs.all noStar = true) :
    PE X (.Call (.Name (bName b) p) xs [] pos) (tE C cx W (.blt b es)) := by
  cases xs with
  | nil => cases hne
  | cons y ys =>
    refine (pe_blt G hg hbo hes ha).wk fun σ H Q ⟨th, r, m, S, rs, h⟩ => ?_
    unfold evE at h
    rw [G.gx.hK]
    exact stepL S rs h fun th1 vs H1 m1 ds S1 rs1 rvs p kp g => bltV_rule S1 rvs b g
theorem vals_one {vs : List V} {d : D} {th : List Addr} {H : Hp} (r : RVs C.K th H vs [d]) : ∃ v, vs = [v] ∧ RV C.K th H v d := by
  cases r with
  | cons a b => cases b; exact ⟨_, rfl, a⟩
theorem RVs.nil_of {vs : List V} {th : List Addr} {H : Hp} (r : RVs C.K th H vs []) : vs = [] := by
  cases r; rfl
theorem few_of {es : List Expr} {pos : Pos} {env : Env} (ha : es.all noStar = true) (hl : es.length < 20) : ((backTo pos (starEach es env)).all (fun x => !x.1) && (backToKw pos (keywordEach [] env)).all (fun x => x.1.isSome)
      && decide (es.length + ([] : List Keyword).length + (if ([] : List Keyword).isEmpty then 0 else 1) < 30)) = true := by
  rw [star_all pos env ha]
  show (true && true && decide (es.length + 0 + 0 < 30)) = true
  simp; omega
theorem dict_is {th : List Addr} {H : Hp} {m : Mem} (S : Sim C th H m) {n : Nat} {a : Addr} (ha : th[n]? = some a) (h : isDict m n = true) : IsD H a := by
  unfold isDict at h
  split at h
  · rename_i lk kvs e
    obtain ⟨kv, rd, _⟩ := S.dK ha e
    exact .inl ⟨kv, rd⟩
  · rename_i lk kvs e
    obtain ⟨kv, rd, _⟩ := S.dT ha e
    exact .inr ⟨kv, rd⟩
  · cases h
section bms
variable {o : E} {es : List E} {x y : Expr} {xs ys : List Expr} {apos pos : Pos}
theorem rcv_lst {b : BM} {d : D} {m : Mem} (hb : b ≠ .get2) (h : rcv b d m = true) : ∃ n ds, d = .ref n ∧ m[n]? = some (.lst ds) := by
  unfold rcv at h
  split at h
  · rename_i n
    cases e : HR.listAt m n with
    | none =>
      cases b <;> first | exact absurd rfl hb | (rw [e] at h; cases h)
    | some ds => exact ⟨n, ds, rfl, listAt_some e⟩
  · cases h
/-- the receiver, the arguments: what the method's rule gets -/
theorem bm_step (G : Good C ck cx k sc W X) {b : BM} {r : V → List V → Hp → VK → Prop} (hbm : b ≠ .get2)
    (rule : ∀ (th : List Addr) (H : Hp) (m : Mem) (n : Nat) (a : Addr) (vs : List V) (ds : List D) (Q : VK) (W : Value → Option Addr → Hp → Prop), Sim C th H m → th[n]? = some a → RVs C.K th H vs ds → GV C th H (bmV b (.ref n) ds m) Q W → r (.ref a) vs H Q) :
    ∀ σ H Q, tE C cx W (.bm b o es) σ H Q → tBM X.K "list" r (tE C cx W o) (tL C cx W es) σ H Q := by
  intro σ H Q ⟨th, rr, m, S, rs, h⟩
  unfold evE at h
  refine stepE S rs h fun th1 v H1 m1 d S1 rs1 rv p kp _ g => ?_
  by_cases hr : rcv b d m1 = true
  · rw [if_pos hr] at g
    obtain ⟨n, ds0, rfl, e⟩ := rcv_lst hbm hr
    cases rv with
    | ref hk =>
      obtain ⟨zs, f, q⟩ := S1.lst hk e
      refine ⟨.inl ⟨rfl, zs, .inl (.inl f)⟩, ?_⟩
      exact stepL S1 rs1 g fun th2 vs H2 m2 ds S2 rs2 rvs p2 kp2 g2 => rule th2 H2 m2 n _ vs ds Q _ S2 (p2 _ _ hk) rvs g2
  · rw [if_neg hr] at g
    exact g.elim
theorem snd_bm (G : Good C ck cx k sc W X) {b : BM} (ho : PE X x (tE C cx W o)) (hes : PA X xs (tL C cx W es)) (hsub : ∀ e ∈ List.zip es xs, PE X e.2 (tE C cx W e.1)) (hb : attrOk x = true) (ha : xs.all noStar = true) (hl : xs.length < 20) (hp : (apos.endLine == pos.line) = true) (hlen : es.length = xs.length) (hbm : bmOk b es.length = true) :
    PE X (.Call (.Attribute x (bmName b) apos) xs [] pos) (tE C cx W (.bm b o es)) := by
  have big1 : ∀ {n : Nat}, n < big → n < sizeLine := fun h => big_lt h
  have base := fun nm => base_of hb nm X.env (eval x X.env)
  have one : ∀ {id : String} {nm : Str} {r : V → List V → Hp → VK → Prop}, PlainAttrs "list" → Slot "list" nm id → typeOf (.builtin id) = pure (.type "method_descriptor") → MtR X id r → xs ≠ [] → PE X (.Call (.Attribute x nm apos) xs [] pos) (tBM X.K "list" r (tE C cx W o) (tL C cx W es)) := by
    intro id nm r pa sl ty mt hne
    cases xs with
    | nil => exact absurd rfl hne
    | cons y ys =>
      have ha' := ha
      rw [List.all_cons, Bool.and_eq_true] at ha'
      exact pe_bm pa sl ty mt ho hes (base _) (few_of ha hl) hp (star_of ha'.1 _ _) (star_any _ _ ha'.2)
  cases b with
  | append =>
    have hne : xs ≠ [] := fun z => by subst z; cases es <;> simp_all [bmOk]
    refine (one PySem.F.plainAttrs_list PySem.F.slot_list_append PySem.F.type_list_append mt_append hne).wk (bm_step G (by decide) fun th H m n a vs ds Q W S hk rv g => ?_)
    unfold bmV at g
    cases ds with
    | nil => exact g.elim
    | cons d ds =>
      cases ds with
      | cons d2 ds => exact g.elim
      | nil =>
        obtain ⟨v, rfl, rv1⟩ := vals_one rv
        simp only at g
        split at g
        · rename_i zs e
          split at g
          · rename_i hz
            obtain ⟨ws, f, q⟩ := S.lst hk e
            refine ⟨a, ws, v, rfl, rfl, f, big1 (by rw [q.length]; exact hz), ?_⟩
            have mu : Mut (H a) := by rw [f]; trivial
            exact gd_set S g hk mu ⟨_, upd_same, (q.mono (Pre.refl _) (keep_upd (.inl mu))).append (.cons (rv1.mono (Pre.refl _) (keep_upd (.inl mu))) .nil)⟩ .non
          · exact g.elim
        · exact g.elim
  | extend =>
    have hne : xs ≠ [] := fun z => by subst z; cases es <;> simp_all [bmOk]
    refine (one PySem.F.plainAttrs_list PySem.F.slot_list_extend PySem.F.type_list_extend mt_extend hne).wk (bm_step G (by decide) fun th H m n a vs ds Q W S hk rv g => ?_)
    unfold bmV at g
    cases rv with
    | nil => exact g.elim
    | cons r1 rt =>
      cases rt with
      | cons _ _ => cases r1 <;> exact g.elim
      | nil =>
        cases r1 with
        | ref hj =>
          simp only at g
          split at g
          · rename_i zs zs2 e e2
            split at g
            · rename_i hz
              obtain ⟨ws, f, q⟩ := S.lst hk e
              obtain ⟨ws2, f2, q2⟩ := S.lst hj e2
              refine ⟨a, _, ws, ws2, rfl, rfl, f, f2, big_line (by rw [q.length, q2.length]; exact hz), ?_⟩
              have mu : Mut (H a) := by rw [f]; trivial
              exact gd_set S g hk mu ⟨_, upd_same, (q.mono (Pre.refl _) (keep_upd (.inl mu))).append (q2.mono (Pre.refl _) (keep_upd (.inl mu)))⟩ .non
            · exact g.elim
          · exact g.elim
        | _ => exact g.elim
  | pop0 =>
    have hnil : xs = [] := by cases es <;> cases xs <;> simp_all [bmOk]
    subst hnil
    have hnil2 : es = [] := by cases es <;> simp_all
    subst hnil2
    refine (pe_bm0 PySem.F.plainAttrs_list PySem.F.slot_list_pop PySem.F.type_list_pop mt_pop ho (base _) hp).wk fun σ H Q h => ?_
    obtain ⟨th, rr, m, S, rs, h⟩ := h
    unfold evE at h
    refine stepE S rs h fun th1 v H1 m1 d S1 rs1 rv p kp _ g => ?_
    by_cases hr : rcv .pop0 d m1 = true
    · rw [if_pos hr] at g
      obtain ⟨n, ds0, rfl, e⟩ := rcv_lst (by decide) hr
      unfold evL at g
      have g : GV C th1 H1 (bmV .pop0 (.ref n) [] m1) Q _ := g
      simp only [bmV, e] at g
      split at g
      · rename_i z hz
        cases rv with
        | @ref _ a hk =>
          obtain ⟨zs, f, q⟩ := S1.lst hk e
          have mu : Mut (H1 a) := by rw [f]; trivial
          obtain ⟨v, hv, rv⟩ := q.get (i := ds0.length - 1) (d := z) (by rw [← List.getLast?_eq_getElem?]; exact hz)
          refine ⟨.inl ⟨rfl, zs, .inl (.inl f)⟩, _, zs, v, rfl, rfl, f, by rw [q.length]; exact hv, ?_⟩
          exact gd_set S1 g hk mu ⟨_, upd_same, (q.mono (Pre.refl _) (keep_upd (.inl mu))).dropLast⟩ rv
      · exact g.elim
    · rw [if_neg hr] at g
      exact g.elim
  | pop1 =>
    have hne : xs ≠ [] := fun z => by subst z; cases es <;> simp_all [bmOk]
    refine (one PySem.F.plainAttrs_list PySem.F.slot_list_pop PySem.F.type_list_pop mt_popAt hne).wk (bm_step G (by decide) fun th H m n a vs ds Q W S hk rv g => ?_)
    unfold bmV at g
    cases rv with
    | nil => exact g.elim
    | cons r1 rt =>
      cases rt with
      | cons _ _ => cases r1 <;> exact g.elim
      | nil =>
        cases r1 with
        | int i =>
          simp only at g
          split at g
          · rename_i zs e
            split at g
            · rename_i hbig
              split at g
              · rename_i j hj
                split at g
                · rename_i z hz
                  obtain ⟨ws, f, q⟩ := S.lst hk e
                  have mu : Mut (H a) := by rw [f]; trivial
                  obtain ⟨v, hv, rv⟩ := q.get hz
                  obtain ⟨z3, z4, z5, z6⟩ := ixN_seq hj
                  have hb2 : zs.length ≤ 1000000 := hbig
                  refine ⟨a, ws, i, j, v, rfl, rfl, f, by omega, by omega, by rw [q.length]; exact z3, hv, ?_⟩
                  exact gd_set S g hk mu ⟨_, upd_same, (q.mono (Pre.refl _) (keep_upd (.inl mu))).eraseIdx j⟩ rv
                · exact g.elim
              · exact g.elim
            · exact g.elim
          · exact g.elim
        | _ => exact g.elim
  | get2 =>
    match es, xs, hes, hsub, ha, hl, hlen, hbm with
    | [e1, e2], [y1, y2], hes, hsub, ha, hl, hlen, hbm =>
      have p1 := hsub (e1, y1) (by simp)
      have p2 := hsub (e2, y2) (by simp)
      have ha' := ha
      simp only [List.all_cons, List.all_nil, Bool.and_true, Bool.and_eq_true] at ha'
      refine (pe_dget2 (by have := G.room.un; omega) ho p1 p2 ⟨base _, few_of ha hl, hp, by rw [star_of ha'.1, star_of ha'.2]; rfl⟩).wk fun σ H Q h => ?_
      obtain ⟨th, rr, m, S, rs, h⟩ := h
      unfold evE at h
      refine stepE S rs h fun th1 v H1 m1 d S1 rs1 rv p kp _ g => ?_
      by_cases hr : rcv .get2 d m1 = true
      · rw [if_pos hr] at g
        cases rv with
        | ref hk =>
          refine ⟨_, rfl, dict_is S1 hk hr, ?_⟩
          simp only [evL, R.bind_assoc, R.bind_ok] at g
          refine stepE S1 rs1 g fun th2 v2 H2 m2 d2 S2 rs2 rv2 p2 kp2 _ g2 => ?_
          refine stepE S2 rs2 g2 fun th3 v3 H3 m3 d3 S3 rs3 rv3 p3 kp3 _ g3 => ?_
          simp only [bmV] at g3
          split at g3
          · rename_i oo eo
            obtain ⟨ov, dg, rel⟩ := dict_rule S3 (p3 _ _ (p2 _ _ hk)) (rv2.mono p3 kp3) eo
            refine ⟨ov, dg, ?_⟩
            rcases rel with ⟨rfl, rfl⟩ | ⟨d', v', rfl, rfl, r'⟩
            · exact gv_here S3 rv3 g3
            · exact gv_here S3 r' g3
          · exact g3.elim
        | _ => simp [rcv] at hr
      · rw [if_neg hr] at g
        exact g.elim
  | _ => simp [bmOk] at hbm
end bms
/-! ### isinstance of one class -/
def tyStr : Ty → String
  | .int => "int" | .bool => "bool" | .str => "str" | .tuple => "tuple" | .list => "list"
theorem isi_rule {th : List Addr} {H : Hp} {m : Mem} {v : V} {d : D} {t : Ty} {b : Bool} {Q : VK} {W : Value → Option Addr → Hp → Prop} (S : Sim C th H m) (r : RV C.K th H v d) (h : isiV d t m = some b) (g : GV C th H (.ok (.bl b) m) Q W) : rIsi C.K [v, .ty (tyStr t)] H Q := by
  have q : Q (.bl b) H := gv_here S (.bl _) g
  cases r with
  | non => cases h; exact ⟨_, _, _, _, false, rfl, .ty _, .base .non, by cases t <;> exact kit_ty (by decide +kernel), q⟩
  | bl y =>
    simp only [isiV, Option.some.injEq] at h
    subst h
    exact ⟨_, _, _, _, _, rfl, .ty _, .base (.bl y), by cases t <;> exact kit_ty (by decide +kernel), q⟩
  | int y =>
    simp only [isiV, Option.some.injEq] at h
    subst h
    exact ⟨_, _, _, _, _, rfl, .ty _, .base (.int y), by cases t <;> exact kit_ty (by decide +kernel), q⟩
  | str y =>
    simp only [isiV, Option.some.injEq] at h
    subst h
    exact ⟨_, _, _, _, _, rfl, .ty _, .base (.str y), by cases t <;> exact kit_ty (by decide +kernel), q⟩
  | tup e rr =>
    simp only [isiV, Option.some.injEq] at h
    subst h
    exact ⟨_, _, _, _, _, rfl, .ty _, .base (.tup e), by cases t <;> exact kit_ty (by decide +kernel), q⟩
  | ref hk =>
    simp only [isiV] at h
    split at h
    · rename_i ds e
      obtain ⟨xs, f, _⟩ := S.lst hk e
      simp only [Option.some.injEq] at h
      subst h
      exact ⟨_, _, _, _, _, rfl, .ty _, .base (.lst f), by cases t <;> exact kit_ty (by decide +kernel), q⟩
    · cases h
  | _ => cases h
theorem snd_isi (G : Good C ck cx k sc W X) {a : E} {x : Expr} {t : Ty} {p p2 pos : Pos} (ha : PE X x (tE C cx W a)) (hg : isGl sc "isinstance" = true) (hg2 : isGl sc (tyName t) = true) (hs : noStar x = true) :
    PE X (.Call (.Name "isinstance" p) [x, .Name (tyName t) p2] [] pos) (tE C cx W (.isi a t)) := by
  have g := G.gl hg
  have g2 := G.gl hg2
  have mn : ∀ x ∈ bltNames, X.mg x = none := G.gx.blt
  have pt : PE X (.Name (tyName t) p2) (tC (.ty (tyStr t))) := by
    cases t
    · exact pe_bltn g2 (mn "int" (by decide)) (by decide +kernel) rfl (by decide) (by decide)
    · exact pe_bltn g2 (mn "bool" (by decide)) (by decide +kernel) rfl (by decide) (by decide)
    · exact pe_bltn g2 (mn "str" (by decide)) (by decide +kernel) rfl (by decide) (by decide)
    · exact pe_bltn g2 (mn "tuple" (by decide)) (by decide +kernel) rfl (by decide) (by decide)
    · exact pe_bltn g2 (mn "list" (by decide)) (by decide +kernel) rfl (by decide) (by decide)
  refine (pe_callB call_isi g (mn "isinstance" (by decide)) (by decide +kernel) (pa_cons ha (pa_cons pt pa_nil (star_of rfl _ _)) (star_of hs _ _)) (by decide) (by decide) (star_of hs _ _) (star_any _ _ (es := [.Name (tyName t) p2]) rfl)).wk fun σ H Q ⟨th, r, m, S, rs, h⟩ => ?_
  unfold evE at h
  rw [G.gx.hK]
  refine stepE S rs h fun th1 v H1 m1 d S1 rs1 rv pp kp _ g => ?_
  obtain ⟨bb, eb, g3⟩ := gd_of g
  cases hq : isiV d t m1 with
  | none => rw [hq] at eb; cases eb
  | some b =>
    rw [hq] at eb; cases eb
    exact isi_rule S1 rv hq g3
end
end HR

set_option linter.all false
set_option maxRecDepth 100000
set_option maxHeartbeats 1000000
/-! HR, part 9: iterators, loops, comprehensions. -/
namespace HR
open PySem L2 PyProof.Rows

/-! ### two iterators that go together -/
structure Lk (C : Ct) (it : HR.It) (J : L2.It) (th0 : List Addr) (H0 : Hp) : Prop where
  stop : ∀ (i : Nat) (th : List Addr) (H : Hp) (m : Mem), Pre th0 th → Keep C.K H0 H → Sim C th H m → it.nth i m = some none → J.stop i H
  go : ∀ (i : Nat) (th : List Addr) (H : Hp) (m : Mem) (x : D), Pre th0 th → Keep C.K H0 H → Sim C th H m → it.nth i m = some (some x) → J.go i H ∧ ∀ v H', J.yld i H v H' → Keep C.K H H' ∧ Sim C th H' m ∧ RV C.K th H' v x
section
variable {C : Ct} {th th0 : List Addr} {H H0 : Hp} {m : Mem}
/-- what a source is, in the heap -/
def SrcOk (C : Ct) (s : Src) (th0 : List Addr) (H0 : Hp) (a : Addr) (lst : Bool) : Prop :=
  match s with
  | .lst k => th0[k]? = some a ∧ lst = true
  | .fix xs => ∃ vs, H0 a = some (.tup vs) ∧ RVs C.K th0 H0 vs xs ∧ lst = false
  | .scr ns => SqS C.K H0 a (ns.map V.int) ∧ lst = true
theorem SrcOk.at_ {s : Src} {a : Addr} {l : Bool} (h : SrcOk C s th0 H0 a l) (p : Pre th0 th) (k : Keep C.K H0 H) (S : Sim C th H m) {xs : List D} (e : s.all m = some xs) : ∃ vs, (if l = true then SqL C.K H a vs else SqT C.K H a vs) ∧ RVs C.K th H vs xs := by
  cases s with
  | lst j =>
    obtain ⟨h1, rfl⟩ := h
    obtain ⟨vs, f, q⟩ := S.listAt (p _ _ h1) e
    exact ⟨vs, .inl (.inl f), q⟩
  | fix ys =>
    obtain ⟨vs, f, q, rfl⟩ := h
    simp only [Src.all, Option.some.injEq] at e
    subst e
    exact ⟨vs, .inl (.inl (k.tup _ _ f)), q.mono p k⟩
  | scr ns =>
    obtain ⟨f, rfl⟩ := h
    simp only [Src.all, Option.some.injEq] at e
    subst e
    exact ⟨_, (k.scr _ _ f).sq, RVs.ints ns⟩
theorem src_of (S : Sim C th H m) {d : D} {v : V} {s : Src} (r : RV C.K th H v d) (h : srcOf m d = some s) : ∃ a l, v = .ref a ∧ SrcOk C s th H a l ∧ ∃ xs, s.all m = some xs := by
  cases r with
  | ref hk =>
    simp only [srcOf, Option.map_eq_some_iff] at h
    obtain ⟨xs, e, rfl⟩ := h
    exact ⟨_, true, rfl, ⟨hk, rfl⟩, xs, e⟩
  | scr e =>
    simp only [srcOf, Option.some.injEq] at h
    subst h
    exact ⟨_, true, rfl, ⟨e, rfl⟩, _, rfl⟩
  | tup e q =>
    simp only [srcOf, Option.some.injEq] at h
    subst h
    exact ⟨_, false, rfl, ⟨_, e, q, rfl⟩, _, rfl⟩
  | _ => cases h
theorem lk_src {s : Src} {a : Addr} {l : Bool} (h : SrcOk C s th0 H0 a l) : Lk C (.src s) (if l = true then Itl C.K a else Itt C.K a) th0 H0 := by
  refine ⟨fun i th H m p k S e => ?_, fun i th H m x p k S e => ?_⟩
  · simp only [HR.It.nth, Option.map_eq_some_iff] at e
    obtain ⟨xs, e1, e2⟩ := e
    obtain ⟨vs, f, q⟩ := h.at_ p k S e1
    have lv := q.length
    have le : xs.length ≤ i := List.getElem?_eq_none_iff.mp e2
    cases l with
    | true => exact ⟨vs, f, by omega⟩
    | false => exact ⟨vs, f, by omega⟩
  · simp only [HR.It.nth, Option.map_eq_some_iff] at e
    obtain ⟨xs, e1, e2⟩ := e
    obtain ⟨vs, f, q⟩ := h.at_ p k S e1
    obtain ⟨v, e3, r⟩ := q.get e2
    cases l with
    | true =>
      refine ⟨⟨vs, v, f, e3⟩, fun w H' y => ?_⟩
      obtain ⟨rfl, y⟩ := y
      have := y vs f
      rw [e3] at this; cases this
      exact ⟨Keep.refl _ _, S, r⟩
    | false =>
      refine ⟨⟨vs, v, f, e3⟩, fun w H' y => ?_⟩
      obtain ⟨rfl, y⟩ := y
      have := y vs f
      rw [e3] at this; cases this
      exact ⟨Keep.refl _ _, S, r⟩
theorem lk_rngD (hi : Int) (n : Nat) : Lk C (.rngD hi n) (Itc hi (-1) n) th0 H0 := by
  refine ⟨fun i th H m p k S e => ?_, fun i th H m x p k S e => ?_⟩
  · simp only [HR.It.nth] at e
    split at e
    · cases e
    · show n ≤ i
      omega
  · simp only [HR.It.nth] at e
    split at e
    · rename_i hlt
      cases e
      refine ⟨hlt, fun w H' y => ?_⟩
      obtain ⟨rfl, rfl⟩ := y
      have : hi + (i : Int) * (-1) = hi - i := by omega
      rw [this]
      exact ⟨Keep.refl _ _, S, .int _⟩
    · cases e
theorem lk_rng (lo : Int) (n : Nat) : Lk C (.rng lo n) (Itr lo n) th0 H0 := by
  refine ⟨fun i th H m p k S e => ?_, fun i th H m x p k S e => ?_⟩
  · simp only [HR.It.nth] at e
    split at e
    · cases e
    · show n ≤ i
      omega
  · simp only [HR.It.nth] at e
    split at e
    · rename_i hlt
      cases e
      refine ⟨hlt, fun w H' y => ?_⟩
      obtain ⟨rfl, rfl⟩ := y
      exact ⟨Keep.refl _ _, S, .int _⟩
    · cases e
theorem new_tup (S : Sim C th H m) {T : Addr} {vs : List V} {ds : List D} (hT : H T = none) (q : RVs C.K th H vs ds) : Keep C.K H (upd H T (.tup vs)) ∧ Sim C th (upd H T (.tup vs)) m ∧ RV C.K th (upd H T (.tup vs)) (.ref T) (.tup ds) := by
  have k : Keep C.K H (upd H T (.tup vs)) := keep_upd (.inr hT)
  exact ⟨k, S.tup hT, .tup upd_same (q.mono (Pre.refl _) k)⟩
theorem lk_en {s : Src} {a : Addr} {l : Bool} (h : SrcOk C s th0 H0 a l) : Lk C (.en s) (if l = true then Ite C.K a else IteT C.K a) th0 H0 := by
  refine ⟨fun i th H m p k S e => ?_, fun i th H m x p k S e => ?_⟩
  · simp only [HR.It.nth, Option.map_eq_some_iff] at e
    obtain ⟨xs, e1, e2⟩ := e
    obtain ⟨vs, f, q⟩ := h.at_ p k S e1
    have lv := q.length
    have le : xs.length ≤ i := by simpa using e2
    cases l with
    | true => exact ⟨vs, f, by omega⟩
    | false => exact ⟨vs, f, by omega⟩
  · simp only [HR.It.nth, Option.map_eq_some_iff] at e
    obtain ⟨xs, e1, y, e2, rfl⟩ := e
    obtain ⟨vs, f, q⟩ := h.at_ p k S e1
    obtain ⟨v, e3, r⟩ := q.get e2
    cases l with
    | true =>
      refine ⟨⟨vs, v, f, e3⟩, fun w H' y => ?_⟩
      obtain ⟨T, x', rfl, hT, rfl, y⟩ := y
      have := y vs f
      rw [e3] at this; cases this
      exact new_tup S hT (.cons (.int _) (.cons r .nil))
    | false =>
      refine ⟨⟨vs, v, f, e3⟩, fun w H' y => ?_⟩
      obtain ⟨T, x', rfl, hT, rfl, y⟩ := y
      have := y vs f
      rw [e3] at this; cases this
      exact new_tup S hT (.cons (.int _) (.cons r .nil))
theorem lk_items {k : Nat} {d : Addr} {o : Obj} {u : HO} {n : Nat} (hk : th0[k]? = some d) (hd : H0 d = some (.frz o u)) (hu : (∃ kvs, u = .dK kvs ∧ kvs.length = n) ∨ ∃ kvs, u = .dT kvs ∧ kvs.length = n) :
    Lk C (.items k) (ItP d o u n (fun i H a b => (∀ kvs, u = .dK kvs → ∃ q, kvs[i]? = some (q, b) ∧ a = kV q) ∧ ∀ kvs, u = .dT kvs → ∃ q w, kvs[i]? = some (q, b) ∧ a = .ref w ∧ H w = some (.tup (q.map kV)))) th0 H0 := by
  refine ⟨fun i th H m p k' S e => ?_, fun i th H m x p k' S e => ?_⟩
  · have hd' := k'.frz _ _ _ hd
    refine ⟨hd', ?_⟩
    simp only [HR.It.nth] at e
    split at e
    · rename_i kvs em
      simp at e
      obtain ⟨kv, f, q⟩ := S.get em (p _ _ hk)
      simp only [if_true] at f
      obtain ⟨o', f⟩ := f
      rw [hd'] at f; cases f
      have := KR.length q
      rcases hu with ⟨kvs', z, hl⟩ | ⟨kvs', z, hl⟩
      · cases z; omega
      · cases z
    · rename_i kvs em
      simp at e
      obtain ⟨kv, f, q⟩ := S.get em (p _ _ hk)
      simp only [if_true] at f
      obtain ⟨o', f⟩ := f
      rw [hd'] at f; cases f
      have := KR.length q
      rcases hu with ⟨kvs', z, hl⟩ | ⟨kvs', z, hl⟩
      · cases z
      · cases z; omega
    · cases e
  · have hd' := k'.frz _ _ _ hd
    simp only [HR.It.nth] at e
    split at e
    · rename_i kvs em
      simp only [Option.some.injEq, Option.map_eq_some_iff] at e
      obtain ⟨⟨q1, dv⟩, e1, rfl⟩ := e
      obtain ⟨kv, f, q⟩ := S.get em (p _ _ hk)
      simp only [if_true] at f
      obtain ⟨o', f⟩ := f
      rw [hd'] at f; cases f
      have ln := KR.length q
      have hi := (List.getElem?_eq_some_iff.mp e1).1
      rcases hu with ⟨kvs', z, hl⟩ | ⟨kvs', z, hl⟩
      · cases z
        refine ⟨⟨hd', by omega⟩, fun w H' y => ?_⟩
        obtain ⟨T, a, b, pr, rfl, hT, rfl⟩ := y
        obtain ⟨q2, e2, rfl⟩ := pr.1 _ rfl
        obtain ⟨⟨q3, d3⟩, e3, e4, e5⟩ := paired_get q e2
        rw [e1] at e3; cases e3
        have e4 : q2 = q1 := e4
        subst e4
        exact new_tup S hT (.cons (by cases q2 <;> constructor) (.cons e5 .nil))
      · cases z
    · rename_i kvs em
      simp only [Option.some.injEq, Option.map_eq_some_iff] at e
      obtain ⟨⟨q1, dv⟩, e1, rfl⟩ := e
      obtain ⟨kv, f, q⟩ := S.get em (p _ _ hk)
      simp only [if_true] at f
      obtain ⟨o', f⟩ := f
      rw [hd'] at f; cases f
      have ln := KR.length q
      have hi := (List.getElem?_eq_some_iff.mp e1).1
      rcases hu with ⟨kvs', z, hl⟩ | ⟨kvs', z, hl⟩
      · cases z
      · cases z
        refine ⟨⟨hd', by omega⟩, fun w H' y => ?_⟩
        obtain ⟨T, a, b, pr, rfl, hT, rfl⟩ := y
        obtain ⟨q2, aw, e2, rfl, ha⟩ := pr.2 _ rfl
        obtain ⟨⟨q3, d3⟩, e3, e4, e5⟩ := paired_get q e2
        rw [e1] at e3; cases e3
        have e4 : q2 = q1 := e4
        subst e4
        have ks : ∀ qs : List HR.Key, RVs C.K th H (qs.map kV) (qs.map keyD) := fun qs => by
          induction qs with
          | nil => exact .nil
          | cons q qs ih => exact .cons (by cases q <;> constructor) ih
        exact new_tup S hT (.cons (.tup ha (ks q2)) (.cons e5 .nil))
    · cases e
end

section
variable {C : Ct} {th th0 : List Addr} {H H0 : Hp} {m : Mem}
theorem lk_zip {s s2 : Src} {a a2 : Addr} {l : Bool} (h : SrcOk C s th0 H0 a l) (h2 : SrcOk C s2 th0 H0 a2 l) : Lk C (.zip s s2) (if l = true then Itz C.K a a2 else RZ.ItzT C.K a a2) th0 H0 := by
  refine ⟨fun i th H m p k S e => ?_, fun i th H m x p k S e => ?_⟩
  · simp only [HR.It.nth, Option.bind_eq_some_iff, Option.map_eq_some_iff] at e
    obtain ⟨xs, e1, ys, e2, e3⟩ := e
    obtain ⟨vs, f, q⟩ := h.at_ p k S e1
    obtain ⟨ws, f2, q2⟩ := h2.at_ p k S e2
    have lv := q.length
    have lw := q2.length
    have le : vs.length ≤ i ∨ ws.length ≤ i := by
      by_cases z : i < xs.length
      · by_cases z2 : i < ys.length
        · rw [List.getElem?_eq_getElem z, List.getElem?_eq_getElem z2] at e3
          cases e3
        · right; omega
      · left; omega
    cases l with
    | true => exact ⟨vs, ws, f, f2, le⟩
    | false => exact ⟨vs, ws, f, f2, le⟩
  · simp only [HR.It.nth, Option.bind_eq_some_iff, Option.map_eq_some_iff] at e
    obtain ⟨xs, e1, ys, e2, y, e3, z, e4, rfl⟩ := e
    obtain ⟨vs, f, q⟩ := h.at_ p k S e1
    obtain ⟨ws, f2, q2⟩ := h2.at_ p k S e2
    obtain ⟨v, e5, r⟩ := q.get e3
    obtain ⟨w, e6, r2⟩ := q2.get e4
    cases l with
    | true =>
      refine ⟨⟨vs, ws, v, w, f, f2, e5, e6⟩, fun w' H' y => ?_⟩
      obtain ⟨T, x', y', rfl, hT, rfl, y1, y2⟩ := y
      have z1 := y1 vs f
      have z2 := y2 ws f2
      rw [e5] at z1; cases z1
      rw [e6] at z2; cases z2
      exact new_tup S hT (.cons r (.cons r2 .nil))
    | false =>
      refine ⟨⟨vs, ws, v, w, f, f2, e5, e6⟩, fun w' H' y => ?_⟩
      obtain ⟨T, x', y', rfl, hT, rfl, y1, y2⟩ := y
      have z1 := y1 vs f
      have z2 := y2 ws f2
      rw [e5] at z1; cases z1
      rw [e6] at z2; cases z2
      exact new_tup S hT (.cons r (.cons r2 .nil))
end

/-! ### patterns -/
mutual
def gP (K : PySem.W.Frag) : P → TG
  | .name i => gName i
  | .tup ps => gTup K ps.length (gPs K ps)
def gPs (K : PySem.W.Frag) : List P → TGs
  | [] => gNil
  | p :: ps => gCons (gP K p) (gPs K ps)
end
theorem wipe_set {σ : L2.St} {i : Nat} {x : Option V} : ∀ {vs : List Nat}, i ∈ vs → wipe (σ.set i x) vs = wipe σ vs
  | [], h => by cases h
  | v :: vs, h => by
    unfold L2.wipe
    by_cases e : i ∈ vs
    · rw [wipe_set e]
    · have e2 : i = v := (List.mem_cons.mp h).resolve_right e
      subst e2
      have : ∀ (us : List Nat), i ∉ us → wipe (σ.set i x) us = (wipe σ us).set i x := by
        intro us
        induction us with
        | nil => intro _; rfl
        | cons u us ih =>
          intro hn
          unfold L2.wipe
          rw [ih (fun z => hn (List.mem_cons_of_mem _ z)), List.set_comm _ _ (fun z => hn (by rw [z]; exact List.mem_cons_self))]
      rw [this vs e, List.set_set]
theorem wipe_wipe {σ : L2.St} {vs : List Nat} : ∀ {us : List Nat}, (∀ i ∈ us, i ∈ vs) → wipe (wipe σ us) vs = wipe σ vs
  | [], _ => rfl
  | u :: us, h => by
    show wipe ((wipe σ us).set u none) vs = _
    rw [wipe_set (h u List.mem_cons_self), wipe_wipe (fun i hi => h i (List.mem_cons_of_mem _ hi))]
theorem asgPs_len : ∀ (ps : List P) {ds : List D} {r r' : Sl}, asgPs ps ds r = some r' → ds.length = ps.length
  | [], [], _, _, _ => rfl
  | [], _ :: _, _, _, e => by simp [asgPs] at e
  | _ :: _, [], _, _, e => by simp [asgPs] at e
  | p :: ps, d :: ds, r, r', e => by
    simp only [asgPs, Option.bind_eq_some_iff] at e
    obtain ⟨r1, _, e2⟩ := e
    simp [asgPs_len ps e2]
section
variable {C : Ct} {th : List Addr} {H : Hp}
mutual
theorem gP_ok : ∀ (p : P) {σ : L2.St} {r r' : Sl} {d : D} {v : V} {Q : L2.St → Hp → Prop}, RS C th H σ r → RV C.K th H v d → asgP p d r = some r' →
    (∀ σ', RS C th H σ' r' → (∀ vs : List Nat, (∀ i ∈ slotsP p, i ∈ vs) → wipe σ' vs = wipe σ vs) → Q σ' H) → gP C.K p v σ H Q
  | .name i, σ, r, r', d, v, Q, rs, rv, e, hQ => by
    simp only [asgP, Option.some.injEq] at e
    subst e
    exact hQ _ (rs.set rv i) fun vs h => wipe_set (h i (by simp [slotsP]))
  | .tup ps, σ, r, r', d, v, Q, rs, rv, e, hQ => by
    cases rv with
    | tup f q =>
      rename_i a xs ds
      simp only [asgP] at e
      have key := gPs_ok ps rs q e hQ
      exact ⟨_, _, rfl, .inl (.inl f), key.1, key.2⟩
    | _ => simp [asgP] at e
theorem gPs_ok : ∀ (ps : List P) {σ : L2.St} {r r' : Sl} {ds : List D} {us : List V} {Q : L2.St → Hp → Prop}, RS C th H σ r → RVs C.K th H us ds → asgPs ps ds r = some r' →
    (∀ σ', RS C th H σ' r' → (∀ vs : List Nat, (∀ i ∈ slotsPs ps, i ∈ vs) → wipe σ' vs = wipe σ vs) → Q σ' H) → us.length = ps.length ∧ gPs C.K ps us σ H Q
  | [], σ, r, r', ds, us, Q, rs, rv, e, hQ => by
    cases rv with
    | nil =>
      simp only [asgPs, Option.some.injEq] at e
      subst e
      exact ⟨rfl, rfl, hQ _ rs fun vs _ => rfl⟩
    | cons _ _ => simp [asgPs] at e
  | p :: ps, σ, r, r', ds, us, Q, rs, rv, e, hQ => by
    cases rv with
    | nil => simp [asgPs] at e
    | cons rv1 rv2 =>
      simp only [asgPs, Option.bind_eq_some_iff] at e
      obtain ⟨r1, e1, e2⟩ := e
      refine ⟨?_, _, _, rfl, gP_ok p rs rv1 e1 fun σ1 rs1 hw => ?_⟩
      · have ln := rv2.length
        have := asgPs_len ps e2
        simp; omega
      · exact (gPs_ok ps rs1 rv2 e2 fun σ2 rs2 hw2 => hQ σ2 rs2 fun vs h => by
          rw [hw2 vs (fun i hi => h i (by simp [slotsPs, hi])), hw vs (fun i hi => h i (by simp [slotsPs, hi]))]).2
end
end
end HR

set_option linter.all false
set_option maxRecDepth 100000
set_option maxHeartbeats 1000000
/-! HR, part 10: what is walked, as the checker reads it; comprehensions. -/
namespace HR
open PySem L2 PyProof.Rows

theorem _root_.L2.PI.wk {X : L2.Cx} {tg e : Expr} {t t' : TI} (h : PI X tg e t) (w : ∀ σ H R, t' σ H R → t σ H R) : PI X tg e t' := ⟨fun pins s σ H R I q => h.run pins s σ H R I (w σ H R q)⟩
section
variable {X : L2.Cx} {C : Ct} {ck : Ck} {cx : HR.Cx} {k : Nat} {sc scp : Scope} {W : WX}
/-- the targets of a scope are slots of the frame -/
def OwnOk (X : L2.Cx) (scp : Scope) : Prop := ∀ x, isOwn scp x = true → Loc X.env.scope x ∧ (X.fn x = true ∨ X.env.scope.names.lookup x = some .local)
mutual
theorem pg_pat (hN : X.N = ck.N) (nd : X.N.Nodup) (hc : X.calm = true) (ho : OwnOk X scp) : ∀ (p : P) (e : Expr), chkP ck scp p e = true → PG X e (gP X.K p)
  | .name i, e, h => by
    unfold chkP at h
    split at h
    · rename_i x hx
      simp only [Bool.and_eq_true, decide_eq_true_eq] at h
      cases e with
      | Name y pos =>
        simp only [vName, Option.some.injEq] at hx
        subst hx
        obtain ⟨h1, h2⟩ := ho y h.2
        exact pg_name nd (by rw [hN]; exact h.1) h1 h2
      | _ => cases hx
    · cases h
  | .tup ps, e, h => by
    unfold chkP at h
    split at h
    · rename_i es hx
      cases e with
      | Tuple es' kk pos =>
        simp only [vTup, Option.some.injEq] at hx
        subst hx
        obtain ⟨h1, h2, h3⟩ := pgs_pat hN nd hc ho ps _ h
        exact pg_tup hc h1 h2 h3
      | _ => cases hx
    · cases h
theorem pgs_pat (hN : X.N = ck.N) (nd : X.N.Nodup) (hc : X.calm = true) (ho : OwnOk X scp) : ∀ (ps : List P) (es : List Expr), chkPs ck scp ps es = true →
    PGs X es (gPs X.K ps) ∧ (assignEach es X.env).length = ps.length ∧ (assignEach es X.env).findIdx? (·.1) = none
  | [], [], _ => ⟨pgs_nil, rfl, rfl⟩
  | [], _ :: _, h => by simp [chkPs] at h
  | _ :: _, [], h => by simp [chkPs] at h
  | p :: ps, e :: es, h => by
    simp only [chkPs, Bool.and_eq_true] at h
    obtain ⟨h1, h2, h3⟩ := pgs_pat hN nd hc ho ps es h.2
    have ea : assignEach (e :: es) X.env = (false, assign e X.env) :: assignEach es X.env := by
      have := h.1.1
      cases e <;> first | rfl | cases this
    refine ⟨pgs_cons (pg_pat hN nd hc ho p e h.1.2) h1 (by rw [ea]; rfl), by rw [ea]; simp [h2], by rw [ea]; simp [List.findIdx?_cons, h3]⟩
end

/-! ### what is walked -/
def tI (C : Ct) (cx : HR.Cx) (W : WX) (ik : IK) (es : List E) : TI := fun σ H Z => ∃ th r m, Sim C th H m ∧ RS C th H σ r ∧
  Gd C th H ((evL cx es r m).bind fun ds m1 => R.of m1 (mkIt ik ds m1)) (fun th' H' (J : L2.It) (p : HR.It × Mem) => Lk C p.1 J th' H') (fun _ J H' _ => Z J H') (fun cl d H' => W cl d σ H')
theorem evL_len : ∀ {es : List E} {r : Sl} {m m' : Mem} {ds : List D}, evL cx es r m = .ok ds m' → ds.length = es.length
  | [], r, m, m', ds, h => by
    simp only [evL] at h
    cases h; rfl
  | e :: es, r, m, m', ds, h => by
    simp only [evL] at h
    cases h1 : evE cx e r m with
    | ok d m1 =>
      rw [h1, R.bind_ok] at h
      cases h2 : evL cx es r m1 with
      | ok xs m2 =>
        rw [h2, R.bind_ok] at h
        cases h
        simp [evL_len h2]
      | exn _ _ _ => rw [h2] at h; cases h
      | bad => rw [h2] at h; cases h
    | exn _ _ _ => rw [h1] at h; cases h
    | bad => rw [h1] at h; cases h
theorem stepL2 {es : List E} {σ : L2.St} {H : Hp} {th : List Addr} {r : Sl} {m : Mem} {α β : Type} {f : List D → Mem → R α} {Rel : List Addr → Hp → β → α → Prop} {P : List Addr → β → Hp → Mem → Prop} {Q : List V → Hp → Prop}
    (S : Sim C th H m) (rs : RS C th H σ r) (h : Gd C th H ((evL cx es r m).bind f) Rel P (fun cl d H' => W cl d σ H'))
    (next : ∀ th1 vs H1 m1 ds, Sim C th1 H1 m1 → RS C th1 H1 σ r → RVs C.K th1 H1 vs ds → Pre th th1 → Keep C.K H H1 → evL cx es r m = .ok ds m1 → Gd C th1 H1 (f ds m1) Rel P (fun cl d H' => W cl d σ H') → Q vs H1) : tL C cx W es σ H Q :=
  ⟨th, r, m, S, rs, (Gd.bind (Rel := fun th' H' v d => RVs C.K th' H' v d) h).imp fun th1 v H1 m1 ⟨d, e1, p, kp, S1, rv, g⟩ => next th1 v H1 m1 d S1 (rs.mono p kp) rv p kp e1 g⟩
theorem evL_one {e : E} {r : Sl} {m : Mem} {α : Type} {f : List D → Mem → R α} : (evL cx [e] r m).bind f = (evE cx e r m).bind fun d m1 => f [d] m1 := by
  simp only [evL, R.bind_assoc, R.bind_ok]
theorem srcs_here {th : List Addr} {H : Hp} {m : Mem} {s : Src} {a : Addr} {l : Bool} (S : Sim C th H m) (h : SrcOk C s th H a l) (hx : ∃ xs, s.all m = some xs) : ∃ vs, if l = true then SqL C.K H a vs else SqT C.K H a vs := by
  obtain ⟨xs, e⟩ := hx
  obtain ⟨vs, f, _⟩ := h.at_ (Pre.refl _) (Keep.refl _ _) S e
  exact ⟨vs, f⟩
theorem sndI_any (G : Good C ck cx k sc W X) {tg iter : Expr} {e : E} (hl : PE X iter (tE C cx W e)) : PI X tg iter (tI C cx W .any [e]) := by
  refine (pi_any hl).wk fun σ H R ⟨th, r, m, S, rs, h⟩ => ?_
  rw [evL_one] at h
  rw [G.gx.hK]
  refine stepE S rs h fun th1 v H1 m1 d S1 rs1 rv p kp _ g => ?_
  obtain ⟨J, eJ, g2⟩ := gd_of g
  simp only [mkIt, Option.map_eq_some_iff] at eJ
  obtain ⟨s, es, rfl⟩ := eJ
  obtain ⟨a, l, rfl, ok, hx⟩ := src_of S1 rv es
  obtain ⟨vs, f⟩ := srcs_here S1 ok hx
  refine ⟨a, rfl, ?_⟩
  cases l with
  | true => exact .inl ⟨⟨vs, f⟩, Gd.here S1 (lk_src ok) g2⟩
  | false => exact .inr ⟨⟨vs, f⟩, Gd.here S1 (lk_src ok) g2⟩
theorem sndI_enum (G : Good C ck cx k sc W X) {elts : List Expr} {kk : Nat} {tpos p pos : Pos} {x : Expr} {e : E} (hl : PA X [x] (tL C cx W [e])) (hg : isGl sc "enumerate" = true) (hs : noStar x = true) : PI X (.Tuple elts kk tpos) (.Call (.Name "enumerate" p) [x] [] pos) (tI C cx W .enum [e]) := by
  refine (pi_enumA (G.gl hg) (G.gx.blt "enumerate" (by decide)) hl (star_of hs _ _)).wk fun σ H R ⟨th, r, m, S, rs, h⟩ => ?_
  rw [G.gx.hK]
  refine stepL S rs h fun th1 vs H1 m1 ds S1 rs1 rv p kp g => ?_
  obtain ⟨J, eJ, g2⟩ := gd_of g
  cases rv with
  | nil => cases eJ
  | cons r1 rt =>
    cases rt with
    | cons _ _ => cases eJ
    | nil =>
      simp only [mkIt] at eJ
      split at eJ
      · rename_i j ej
        cases eJ
        obtain ⟨a, l, rfl, ok, hx⟩ := src_of S1 r1 ej
        obtain ⟨vs, f⟩ := srcs_here S1 ok hx
        obtain ⟨_, rfl⟩ := id ok
        exact ⟨a, vs, rfl, .inl ⟨f, Gd.here S1 (lk_en ok) g2⟩⟩
      · rename_i j ej
        cases eJ
        obtain ⟨a, l, rfl, ok, hx⟩ := src_of S1 r1 ej
        obtain ⟨vs, f⟩ := srcs_here S1 ok hx
        obtain ⟨_, _, _, rfl⟩ := id ok
        exact ⟨a, vs, rfl, .inr ⟨f, Gd.here S1 (lk_en ok) g2⟩⟩
      · cases eJ
theorem sndI_zip (G : Good C ck cx k sc W X) {elts : List Expr} {kk : Nat} {tpos p pos : Pos} {x y : Expr} {e e2 : E} (hl : PA X [x, y] (tL C cx W [e, e2])) (hg : isGl sc "zip" = true) (hs : noStar x = true) (hs2 : noStar y = true) : PI X (.Tuple elts kk tpos) (.Call (.Name "zip" p) [x, y] [] pos) (tI C cx W .zip [e, e2]) := by
  refine (RZ.pi_zipA (G.gl hg) (G.gx.blt "zip" (by decide)) hl (star_of hs _ _) (star_any _ _ (es := [y]) (by simp [hs2]))).wk fun σ H R ⟨th, r, m, S, rs, h⟩ => ?_
  rw [G.gx.hK]
  refine stepL S rs h fun th1 vs H1 m1 ds S1 rs1 rv p kp g => ?_
  obtain ⟨J, eJ, g2⟩ := gd_of g
  cases rv with
  | nil => cases eJ
  | cons r1 rt =>
    cases rt with
    | nil => cases eJ
    | cons r2 rt2 =>
      cases rt2 with
      | cons _ _ => cases eJ
      | nil =>
        simp only [mkIt] at eJ
        split at eJ
        · rename_i j j2 ej ej2
          cases eJ
          obtain ⟨a, l, rfl, ok, hx⟩ := src_of S1 r1 ej
          obtain ⟨vs, f⟩ := srcs_here S1 ok hx
          obtain ⟨_, rfl⟩ := id ok
          obtain ⟨a2, l2, rfl, ok2, hx2⟩ := src_of S1 r2 ej2
          obtain ⟨vs2, f2⟩ := srcs_here S1 ok2 hx2
          obtain ⟨_, rfl⟩ := id ok2
          exact ⟨a, a2, vs, vs2, rfl, .inl ⟨f, f2, Gd.here S1 (lk_zip ok ok2) g2⟩⟩
        · rename_i j j2 ej ej2
          cases eJ
          obtain ⟨a, l, rfl, ok, hx⟩ := src_of S1 r1 ej
          obtain ⟨vs, f⟩ := srcs_here S1 ok hx
          obtain ⟨_, _, _, rfl⟩ := id ok
          obtain ⟨a2, l2, rfl, ok2, hx2⟩ := src_of S1 r2 ej2
          obtain ⟨vs2, f2⟩ := srcs_here S1 ok2 hx2
          obtain ⟨_, _, _, rfl⟩ := id ok2
          exact ⟨a, a2, vs, vs2, rfl, .inr ⟨f, f2, Gd.here S1 (lk_zip ok ok2) g2⟩⟩
        · cases eJ
theorem lim_of {i : Int} (h : lim62 i = true) : -(2 ^ 62) ≤ i ∧ i < 2 ^ 62 := by unfold lim62 at h; exact of_decide_eq_true h
theorem sndI_rng1 (G : Good C ck cx k sc W X) {tg : Expr} {p pos : Pos} {x : Expr} {e : E} (hl : PA X [x] (tL C cx W [e])) (hg : isGl sc "range" = true) (hs : noStar x = true) : PI X tg (.Call (.Name "range" p) [x] [] pos) (tI C cx W .rng [e]) := by
  refine (pi_range1 (G.gl hg) (G.gx.blt "range" (by decide)) hl (star_of hs _ _)).wk fun σ H R ⟨th, r, m, S, rs, h⟩ => ?_
  refine stepL2 S rs h fun th1 vs H1 m1 ds S1 rs1 rv p kp e1 g => ?_
  obtain ⟨J, eJ, g2⟩ := gd_of g
  have ln := evL_len e1
  cases rv with
  | nil => cases eJ
  | cons r1 rt =>
    cases rt with
    | cons r2 rt2 => simp at ln
    | nil =>
      cases r1 with
      | int n =>
        simp only [mkIt] at eJ
        split at eJ
        · rename_i hl
          cases eJ
          obtain ⟨z1, z2⟩ := lim_of hl
          exact ⟨n, rfl, z1, z2, Gd.here S1 (lk_rng _ _) g2⟩
        · cases eJ
      | _ => cases eJ
theorem sndI_rng2 (G : Good C ck cx k sc W X) {tg : Expr} {p pos : Pos} {x y : Expr} {e e2 : E} (hl : PA X [x, y] (tL C cx W [e, e2])) (hg : isGl sc "range" = true) (hs : noStar x = true) (hs2 : noStar y = true) : PI X tg (.Call (.Name "range" p) [x, y] [] pos) (tI C cx W .rng [e, e2]) := by
  refine (pi_range2 (G.gl hg) (G.gx.blt "range" (by decide)) hl (by rw [star_of hs, star_of hs2]; rfl) (star_of hs2 _ _)).wk fun σ H R ⟨th, r, m, S, rs, h⟩ => ?_
  refine stepL2 S rs h fun th1 vs H1 m1 ds S1 rs1 rv p kp e1 g => ?_
  obtain ⟨J, eJ, g2⟩ := gd_of g
  have ln := evL_len e1
  cases rv with
  | nil => cases eJ
  | cons r1 rt =>
    cases rt with
    | nil => simp at ln
    | cons r2 rt2 =>
      cases rt2 with
      | cons _ _ => simp at ln
      | nil =>
        cases r1 with
        | int n =>
          cases r2 with
          | int n2 =>
            simp only [mkIt] at eJ
            split at eJ
            · rename_i hl
              cases eJ
              simp only [Bool.and_eq_true] at hl
              obtain ⟨z1, z2⟩ := lim_of hl.1
              obtain ⟨z3, z4⟩ := lim_of hl.2
              exact ⟨n, n2, rfl, ⟨z1, z2, z3, z4⟩, Gd.here S1 (lk_rng _ _) g2⟩
            · cases eJ
          | _ => cases eJ
        | _ => cases r2 <;> cases eJ
theorem sndI_rng3 (G : Good C ck cx k sc W X) {tg : Expr} {p pos : Pos} {x y z : Expr} {e e2 e3 : E} (hl : PA X [x, y, z] (tL C cx W [e, e2, e3])) (hg : isGl sc "range" = true) (hs : noStar x = true) (hs2 : noStar y = true) (hs3 : noStar z = true) : PI X tg (.Call (.Name "range" p) [x, y, z] [] pos) (tI C cx W .rng [e, e2, e3]) := by
  refine (pi_range3 (G.gl hg) (G.gx.blt "range" (by decide)) hl (star_of hs _ _) (star_any _ _ (es := [y, z]) (by simp [hs2, hs3]))).wk fun σ H R ⟨th, r, m, S, rs, h⟩ => ?_
  refine stepL2 S rs h fun th1 vs H1 m1 ds S1 rs1 rv p kp e1 g => ?_
  obtain ⟨J, eJ, g2⟩ := gd_of g
  have ln := evL_len e1
  cases rv with
  | nil => simp at ln
  | cons r1 rt =>
    cases rt with
    | nil => simp at ln
    | cons r2 rt2 =>
      cases rt2 with
      | nil => simp at ln
      | cons r3 rt3 =>
        cases rt3 with
        | cons _ _ => simp at ln
        | nil =>
          cases r1 with
          | int n1 =>
            cases r2 with
            | int n2 =>
              cases r3 with
              | int n3 =>
                simp only [mkIt] at eJ
                split at eJ
                · rename_i hl
                  cases eJ
                  simp only [Bool.and_eq_true, decide_eq_true_eq] at hl
                  obtain ⟨⟨l1, l2⟩, rfl⟩ := hl
                  obtain ⟨z1, z2⟩ := lim_of l1
                  obtain ⟨z3, z4⟩ := lim_of l2
                  exact ⟨n1, n2, -1, _, rfl, RgC.neg z1 z2 z3 z4, Gd.here S1 (lk_rngD _ _) g2⟩
                · cases eJ
              | _ => cases eJ
            | _ => cases r3 <;> cases eJ
          | _ => cases r2 <;> cases r3 <;> cases eJ
/-- all but the pairs of a dict -/
theorem sndI (G : Good C ck cx k sc W X) {ik : IK} {tg iter : Expr} {es : List E} {xs : List Expr} (hit : itArgs sc ik tg iter = some xs) (hik : ik ≠ .items) (hc : chkL ck sc es xs = true) (he : ∀ e x, (e, x) ∈ es.zip xs → PE X x (tE C cx W e)) (hl : PA X xs (tL C cx W es)) :
    PI X tg iter (tI C cx W ik es) := by
  have hst := chkL_star hc
  have hln := chkL_len hc
  cases ik with
  | any =>
    simp only [itArgs] at hit
    split at hit
    · cases hit
      cases es with
      | nil => cases hln
      | cons e es =>
        cases es with
        | cons _ _ => cases hln
        | nil => exact sndI_any G (he e iter (by simp))
    · cases hit
  | rng =>
    simp only [itArgs] at hit
    split at hit
    · rename_i x ys ev
      split at hit
      · rename_i hh
        cases hit
        simp only [Bool.and_eq_true, decide_eq_true_eq, Bool.or_eq_true] at hh
        unfold vCallN at ev
        split at ev
        · cases ev
          obtain ⟨⟨rfl, hg⟩, hlen⟩ := hh
          match xs, es, hln, hlen, hst, hl with
          | [y], [e], _, _, hst, hl => exact sndI_rng1 G hl hg (by simpa using hst)
          | [y, z], [e, e2], _, _, hst, hl =>
            simp only [List.all_cons, List.all_nil, Bool.and_true, Bool.and_eq_true] at hst
            exact sndI_rng2 G hl hg hst.1 hst.2
          | [y, z, w], [e, e2, e3], _, _, hst, hl =>
            simp only [List.all_cons, List.all_nil, Bool.and_true, Bool.and_eq_true] at hst
            exact sndI_rng3 G hl hg hst.1 hst.2.1 hst.2.2
        · cases ev
      · cases hit
    · cases hit
  | enum =>
    simp only [itArgs] at hit
    split at hit
    · rename_i x ys ev
      split at hit
      · rename_i hh
        cases hit
        simp only [Bool.and_eq_true, decide_eq_true_eq] at hh
        unfold vCallN at ev
        split at ev
        · cases ev
          obtain ⟨⟨⟨rfl, hg⟩, htg⟩, hlen⟩ := hh
          cases tg with
          | Tuple elts kk tpos =>
            match xs, es, hln, hlen, hst, hl with
            | [y], [e], _, _, hst, hl => exact sndI_enum G hl hg (by simpa using hst)
          | _ => cases htg
        · cases ev
      · cases hit
    · cases hit
  | zip =>
    simp only [itArgs] at hit
    split at hit
    · rename_i x ys ev
      split at hit
      · rename_i hh
        cases hit
        simp only [Bool.and_eq_true, decide_eq_true_eq] at hh
        unfold vCallN at ev
        split at ev
        · cases ev
          obtain ⟨⟨⟨rfl, hg⟩, htg⟩, hlen⟩ := hh
          cases tg with
          | Tuple elts kk tpos =>
            match xs, es, hln, hlen, hst, hl with
            | [y, z], [e, e2], _, _, hst, hl =>
              simp only [List.all_cons, List.all_nil, Bool.and_true, Bool.and_eq_true] at hst
              exact sndI_zip G hl hg hst.1 hst.2
          | _ => cases htg
        · cases ev
      · cases hit
    · cases hit
  | items => exact absurd rfl hik
end
end HR

set_option linter.all false
set_option maxRecDepth 100000
set_option maxHeartbeats 1000000
/-! HR, part 11: comprehensions. -/
namespace HR
open PySem L2 PyProof.Rows

abbrev WF : WX := fun _ _ _ _ => False
theorem takesF {X : L2.Cx} : Takes X WF := fun _ _ x => by
  obtain ⟨_, _, _, _, _, _, _, _, _, _, _, _, _, _, _, _, z⟩ := x
  exact z.elim
section
variable {X : L2.Cx} {C : Ct} {ck : Ck} {cx : HR.Cx} {k : Nat} {sc scp : Scope} {W : WX}
theorem Good.blk (G : Good C ck cx k sc W X) (s : Shared) (H : Hp) (Ca : Addr) (cl : List (Str × Addr)) (fp : List Addr) {sc2 : Scope} : Good C ck cx k (relS sc2 sc) WF (X.blk s H sc2 (compEnvC sc2 cl Ca X.env) fp) := by
  have g := G.gx
  refine ⟨⟨g.hK, g.tb, g.fnd, g.fns, g.cls, g.nat, g.mth, g.ini, g.blt, g.con, g.exs⟩, G.hN, ?_, G.calm, G.nd, G.room, takesF⟩
  show relS sc2 X.env.scope = relS sc2 sc
  rw [G.hS]
theorem own_blk {sc2 : Scope} {s : Shared} {H : Hp} {Ca : Addr} {cl : List (Str × Addr)} {fp : List Addr} : OwnOk (X.blk s H sc2 (compEnvC sc2 cl Ca X.env) fp) sc2 := by
  intro x hx
  have l := own_of hx
  have kp : ∀ kd, kd ≠ NameKind.free → sc2.names.lookup x = some kd → (relS sc2 X.env.scope).names.lookup x = some kd := fun kd hk e => lookup_relS_keep hk e
  rcases l with e | e
  · exact ⟨.inl (kp _ (by decide) e), .inr (kp _ (by decide) e)⟩
  · refine ⟨.inr (kp _ (by decide) e), .inl ?_⟩
    show (sc2.names.lookup x == some .cell) = true
    rw [e]; rfl
theorem ownN_map (own : List Nat) : (ownN ck own).map (·.2) = own := by
  unfold ownN
  rw [List.map_map]
  exact List.map_id _
theorem itArgs_set {ik : IK} {tg iter : Expr} {xs : List Expr} (h : itArgs sc ik tg iter = some xs) : noSet iter = true := by
  cases iter with
  | Set _ _ _ => cases ik <;> simp [itArgs, vCallN, vCallA, noSet] at h
  | _ => rfl
theorem Gd.calm {α β : Type} {x : R α} {th : List Addr} {H : Hp} {Rel : List Addr → Hp → β → α → Prop} {P : List Addr → β → Hp → Mem → Prop} {W W' : Value → Option Addr → Hp → Prop} (h : Gd C th H x.calm Rel P W) : Gd C th H x Rel P W' := by
  cases x with
  | ok a m => exact h
  | exn _ _ _ => exact h.elim
  | bad => exact h
/-- the tests of a comprehension -/
def tTs (C : Ct) (cx : HR.Cx) (cond : List E) : TT := fun σ H Q => ∃ th r m, Sim C th H m ∧ RS C th H σ r ∧
  Gd C th H ((evL cx cond r m).bind fun cs m2 => R.of m2 (condB cs)) (fun _ _ (b : Bool) a => b = a) (fun _ b H' _ => Q b H') (fun _ _ _ => False)
theorem pts_cond {cond : List E} {ifs : List Expr} (hln : cond.length = ifs.length) (hl : ifs.length ≤ 1) (h : ∀ e x, (e, x) ∈ cond.zip ifs → PT X x (tT C cx WF e)) : PTs X ifs (tTs C cx cond) := by
  match cond, ifs, hln, hl, h with
  | _ :: _ :: _, _, hln, hl, _ => exact absurd hl (by simp at hln; omega)
  | [], [], _, _, _ =>
    refine ⟨fun pins s σ H Q I ⟨th, r, m, S, rs, g⟩ => pts_nil.run pins s σ H Q I ?_⟩
    have g2 : Gd C th H (.ok true m) (fun _ _ (b : Bool) a => b = a) (fun _ b H' _ => Q b H') (fun _ _ _ => False) := g
    exact Gd.here S rfl g2
  | [e], [x], _, _, h =>
    refine ⟨fun pins s σ H Q I ⟨th, r, m, S, rs, g⟩ => (pts_one (h e x (by simp))).run pins s σ H Q I ⟨th, r, m, S, rs, ?_⟩⟩
    rw [evL_one] at g
    unfold tstE
    have : (fun (d : D) m1 => R.of m1 (condB [d])) = fun d m1 => R.of m1 (boolOf d) := by
      funext d m1
      cases d <;> rfl
    rw [this] at g
    exact g

/-! ### lists -/
def RO (C : Ct) (th : List Addr) (H : Hp) : Option V → Option D → Prop
  | none, none => True
  | some v, some d => RV C.K th H v d
  | _, _ => False
def lcTurn (cx : HR.Cx) (own : List Nat) (p : P) (cond : List E) (elt : E) (r : Sl) (x : D) (m : Mem) : R (Option D) :=
  match asgP p x (wipeS r own) with
  | none => .bad
  | some r1 => ((evL cx cond r1 m).bind fun cs m2 => (R.of m2 (condB cs)).bind fun b m3 =>
      if b = true then (evE cx elt r1 m3).bind fun d m4 => .ok (some d) m4 else .ok none m3).calm
theorem wipeW {σ σ2 : L2.St} {own : List Nat} {p : P} (hown : ∀ i ∈ slotsP p, i ∈ own) (hw : ∀ vs : List Nat, (∀ i ∈ slotsP p, i ∈ vs) → wipe σ2 vs = wipe (wipe σ own) vs) : wipe σ2 own = wipe σ own := by
  rw [hw own hown, wipe_wipe fun i h => h]
theorem lc_loop {it : HR.It} {J : L2.It} {th0 : List Addr} {H0 : Hp} {σ : L2.St} {r : Sl} {own : List Nat} {p : P} {cond : List E} {elt : E} {kD : Nat} {Da : Addr} {Pd : List Addr → Unit → Hp → Mem → Prop} {We : Value → Option Addr → Hp → Prop} {Qd : Hp → Prop} {m0 : Mem}
    (lk : Lk C it J th0 H0) (hk : th0[kD]? = some Da) (rs : RS C th0 H0 σ r) (hown : ∀ i ∈ slotsP p, i ∈ own)
    (S : Sim C th0 H0 m0) (g : Gd C th0 H0 (lcLoop it (lcTurn cx own p cond elt r) kD FU 0 m0) (fun _ _ _ _ => True) Pd We)
    (hend : ∀ th H m, Pre th0 th → Keep C.K H0 H → Sim C th H m → Pd th () H m → Qd H) :
    ∃ W : Nat → Nat → Hp → Prop, (∃ m, W 0 m H0) ∧ ∀ i m H, W i m H → (J.stop i H ∧ Qd H) ∨ (J.go i H ∧ ∃ Nx : Hp → Prop, (∀ H', Nx H' → ∃ m', m' < m ∧ W (i + 1) m' H') ∧ ∀ x H', J.yld i H x H' →
      gP C.K p x (wipe σ own) H' fun σ2 H2 => wipe σ2 own = wipe σ own ∧ tTs C cx cond σ2 H2 fun b H3 =>
        if b = true then tE C cx WF elt σ2 H3 fun y H4 => ∃ acc, H4 Da = some (.lst acc) ∧ acc.length < sizeLine ∧ Nx (upd H4 Da (.lst (acc ++ [y]))) else Nx H3) := by
  refine ⟨fun i n H => ∃ th m, Pre th0 th ∧ Keep C.K H0 H ∧ Sim C th H m ∧ Gd C th H (lcLoop it (lcTurn cx own p cond elt r) kD n i m) (fun _ _ _ _ => True) Pd We, ⟨FU, th0, m0, Pre.refl _, Keep.refl _ _, S, g⟩, ?_⟩
  rintro i n H ⟨th, m, pr, kp, S1, g1⟩
  cases n with
  | zero => exact g1.elim
  | succ n =>
    unfold lcLoop at g1
    cases hn : it.nth i m with
    | none => rw [hn] at g1; exact g1.elim
    | some o =>
      rw [hn] at g1
      cases o with
      | none => exact .inl ⟨lk.stop i th H m pr kp S1 hn, hend th H m pr kp S1 (Gd.here (b := ()) S1 trivial g1)⟩
      | some x =>
        obtain ⟨go, yl⟩ := lk.go i th H m x pr kp S1 hn
        refine .inr ⟨go, fun H' => ∃ th m, Pre th0 th ∧ Keep C.K H0 H' ∧ Sim C th H' m ∧ Gd C th H' (lcLoop it (lcTurn cx own p cond elt r) kD n (i + 1) m) (fun _ _ _ _ => True) Pd We, fun H' h => ⟨n, Nat.lt_succ_self _, h⟩, fun v H' hy => ?_⟩
        obtain ⟨ky, Sy, rv⟩ := yl v H' hy
        have g2 := Gd.shift (Pre.refl _) ky g1
        have g3 := Gd.bind (Rel := fun th H b a => RO C th H b a) g2
        have rs1 := (rs.mono pr (kp.trans ky)).wipe own
        cases ha : asgP p x (wipeS r own) with
        | none =>
          simp only [lcTurn, ha] at g3
          exact g3.elim
        | some r1 =>
          refine gP_ok p rs1 rv ha fun σ2 rs2 hw => ⟨wipeW hown hw, ?_⟩
          simp only [lcTurn, ha] at g3
          have g4 := Gd.calm (W' := fun _ _ _ => False) g3
          rw [← R.bind_assoc] at g4
          refine ⟨th, r1, m, Sy, rs2, (Gd.bind (Rel := fun _ _ (b : Bool) a => b = a) g4).imp ?_⟩
          rintro th3 b H3 m3 ⟨b', e3, p3, k3, S3, rfl, g5⟩
          have rs3 := rs2.mono p3 k3
          cases b with
          | false =>
            simp only [Bool.false_eq_true, if_false] at g5 ⊢
            obtain ⟨a, e6, p6, k6, S6, ro, g6⟩ := Gd.here (b := none) S3 trivial g5
            cases a with
            | some _ => exact ro.elim
            | none => exact ⟨th3, m3, pr.trans p3, (kp.trans ky).trans k3, S3, g6⟩
          | true =>
            simp only [if_true] at g5 ⊢
            refine stepE (W := WF) S3 rs3 g5 fun th4 w H4 m4 d S4 rs4 rw4 p4 k4 _ g6 => ?_
            obtain ⟨a, e7, p7, k7, S7, ro, g7⟩ := Gd.here (b := some w) S4 rw4 g6
            cases a with
            | none => exact ro.elim
            | some d' =>
              have rd : RV C.K th4 H4 w d' := ro
              have hk4 : th4[kD]? = some Da := p4 _ _ (p3 _ _ (pr _ _ hk))
              simp only at g7
              split at g7
              · rename_i acc em
                split at g7
                · rename_i hz
                  obtain ⟨ws, f, q⟩ := S4.lst hk4 em
                  have mu : Mut (H4 Da) := by rw [f]; trivial
                  have k8 : Keep C.K H4 (upd H4 Da (.lst (ws ++ [w]))) := keep_upd (.inl mu)
                  refine ⟨ws, f, big_lt (by rw [q.length]; exact hz), th4, _, (pr.trans p3).trans p4, (((kp.trans ky).trans k3).trans k4).trans k8, S4.set (o := .lst (acc ++ [d'])) hk4 k8 ⟨_, upd_same, (q.mono (Pre.refl _) k8).append (.cons (rd.mono (Pre.refl _) k8) .nil)⟩, Gd.shift (Pre.refl _) k8 g7⟩
                · exact g7.elim
              · exact g7.elim

theorem lc_eq {own : List Nat} {ik : IK} {its : List E} {p : P} {cond : List E} {elt : E} {r : Sl} {m : Mem} : evE cx (.lc own ik its p cond elt) r m = (evL cx its r m).bind fun ds m1 =>
    match mkIt ik ds m1 with
    | none => .bad
    | some (J, m2) => (lcLoop J (lcTurn cx own p cond elt r) m2.length FU 0 (m2 ++ [.lst []])).bind fun _ m5 => .ok (.ref m2.length) (endIt J m5) := by
  rw [evE]
  rfl
theorem mkIt_same {ik : IK} {ds : List D} {m : Mem} {J : HR.It} {m2 : Mem} (h : mkIt ik ds m = some (J, m2)) (hik : ik ≠ .items) : m2 = m ∧ ∀ m', endIt J m' = m' := by
  unfold mkIt at h
  split at h
  · simp only [Option.map_eq_some_iff] at h
    obtain ⟨s, _, e⟩ := h
    cases e; exact ⟨rfl, fun _ => rfl⟩
  · split at h <;> cases h; exact ⟨rfl, fun _ => rfl⟩
  · split at h <;> cases h; exact ⟨rfl, fun _ => rfl⟩
  · split at h <;> cases h; exact ⟨rfl, fun _ => rfl⟩
  · split at h <;> cases h <;> exact ⟨rfl, fun _ => rfl⟩
  · split at h <;> cases h <;> exact ⟨rfl, fun _ => rfl⟩
  · exact absurd rfl hik
  · cases h
theorem Lk.mono {it : HR.It} {J : L2.It} {th th' : List Addr} {H H' : Hp} (l : Lk C it J th H) (p : Pre th th') (k : Keep C.K H H') : Lk C it J th' H' :=
  ⟨fun i t h m p' k' => l.stop i t h m (p.trans p') (k.trans k'), fun i t h m x p' k' => l.go i t h m x (p.trans p') (k.trans k')⟩
section
variable {own : List Nat} {ik : IK} {its : List E} {p : P} {cond : List E} {elt : E} {x tg iter : Expr} {ifs : List Expr} {sc2 : Scope} {pos : Pos}
/-- behind the iterator: the loop -/
theorem lc_tail {σ : L2.St} {r : Sl} {th : List Addr} {H : Hp} {m2 : Mem} {it : HR.It} {J : L2.It} {Pd : List Addr → Unit → Hp → Mem → Prop} {We : Value → Option Addr → Hp → Prop} (lk : Lk C it J th H) (S : Sim C th H m2) (rs : RS C th H σ r) (hown : ∀ i ∈ slotsP p, i ∈ own) {Qd : Addr → Hp → Prop}
    (g : Gd C th H (lcLoop it (lcTurn cx own p cond elt r) m2.length FU 0 (m2 ++ [.lst []])) (fun _ _ _ _ => True) Pd We)
    (hend : ∀ th' H' m' Da, Pre th th' → Keep C.K H H' → Sim C th' H' m' → th'[m2.length]? = some Da → Pd th' () H' m' → Qd Da H') :
    ∀ D, H D = none → ∃ W : Nat → Nat → Hp → Prop, (∃ m, W 0 m (upd H D (.lst []))) ∧ ∀ i m H, W i m H → (J.stop i H ∧ Qd D H) ∨ (J.go i H ∧ ∃ Nx : Hp → Prop, (∀ H', Nx H' → ∃ m', m' < m ∧ W (i + 1) m' H') ∧ ∀ x H', J.yld i H x H' →
      gP C.K p x (wipe σ own) H' fun σ2 H2 => wipe σ2 own = wipe σ own ∧ tTs C cx cond σ2 H2 fun b H3 =>
        if b = true then tE C cx WF elt σ2 H3 fun y H4 => ∃ acc, H4 D = some (.lst acc) ∧ acc.length < sizeLine ∧ Nx (upd H4 D (.lst (acc ++ [y]))) else Nx H3) := by
  intro Da hD
  have k1 : Keep C.K H (upd H Da (.lst [])) := keep_upd (.inr hD)
  have p1 : Pre th (th ++ [Da]) := Pre.snoc _ _
  have S1 : Sim C (th ++ [Da]) (upd H Da (.lst [])) (m2 ++ [.lst []]) := S.new hD k1 ⟨[], upd_same, .nil⟩
  have hidx : (th ++ [Da])[m2.length]? = some Da := by rw [← S.len, List.getElem?_append_right (Nat.le_refl _)]; simp
  exact lc_loop (lk.mono p1 k1) hidx (rs.mono p1 k1) hown S1 (Gd.shift p1 k1 g) fun th' H' m' p' k' S' q =>
    hend th' H' m' Da (p1.trans p') (k1.trans k') S' (p' _ _ hidx) q
/-- any list comprehension but over the pairs of a dict -/
theorem lc_wk (G : Good C ck cx k sc W X) (hown : ∀ i ∈ slotsP p, i ∈ own) (hik : ik ≠ .items) : ∀ σ H Q, tE C cx W (.lc own ik its p cond elt) σ H Q → tLc (tI C cx W ik its) (gP X.K p) (tTs C cx cond) (tE C cx WF elt) own σ H Q := by
  intro σ H Q ⟨th, r, m, S, rs, h⟩
  rw [lc_eq] at h
  rw [G.gx.hK]
  have h2 : Gd C th H (((evL cx its r m).bind fun ds m1 => R.of m1 (mkIt ik ds m1)).bind fun q m1 => (lcLoop q.1 (lcTurn cx own p cond elt r) q.2.length FU 0 (q.2 ++ [.lst []])).bind fun _ m5 => .ok (.ref q.2.length) (endIt q.1 m5))
      (fun th' H' v d => RV C.K th' H' v d) (fun _ v H' _ => Q v H') (fun cl d H' => W cl d σ H') := by
    rw [R.bind_assoc]
    have : (fun (ds : List D) m1 => (R.of m1 (mkIt ik ds m1)).bind fun q m1 => (lcLoop q.1 (lcTurn cx own p cond elt r) q.2.length FU 0 (q.2 ++ [.lst []])).bind fun _ m5 => R.ok (D.ref q.2.length) (endIt q.1 m5)) = fun ds m1 =>
        match mkIt ik ds m1 with
        | none => .bad
        | some (J, m2) => (lcLoop J (lcTurn cx own p cond elt r) m2.length FU 0 (m2 ++ [.lst []])).bind fun _ m5 => .ok (.ref m2.length) (endIt J m5) := by
      funext ds m1
      cases mkIt ik ds m1 <;> rfl
    rw [this]
    exact h
  have hb := Gd.bind (Rel := fun th' H' (J : L2.It) (p : HR.It × Mem) => Lk C p.1 J th' H') h2
  refine ⟨th, r, m, S, rs, hb.imp ?_⟩
  rintro th1 J H1 m1 ⟨⟨it, m2⟩, e1, p1, k1, S1, lk, g⟩
  obtain ⟨rfl, hend⟩ : m2 = m1 ∧ ∀ m', endIt it m' = m' := by
    cases e2 : evL cx its r m with
    | ok ds m1' =>
      rw [e2, R.bind_ok] at e1
      cases e3 : mkIt ik ds m1' with
      | none => rw [e3] at e1; cases e1
      | some q =>
        rw [e3] at e1
        cases e1
        exact mkIt_same e3 hik
    | exn _ _ _ => rw [e2] at e1; cases e1
    | bad => rw [e2] at e1; cases e1
  simp only [hend] at g
  exact lc_tail lk S1 (rs.mono p1 k1) hown (Qd := fun D H => Q (.ref D) H) (Gd.bind (Rel := fun _ _ _ _ => True) g) fun th' H' m' Da p' k' S' hk ⟨_, _, _, _, S2, _, q⟩ => Gd.here S' (.ref hk) q
end

/-! ### over the pairs of a dict, locked for the time -/
theorem path_ev {its : List E} (h : isPath its = true) {r : Sl} {m : Mem} {j : Nat} {α β : Type} {f : List D → Mem → R α} {th : List Addr} {H : Hp} {Rel : List Addr → Hp → β → α → Prop} {P : List Addr → β → Hp → Mem → Prop} {We : Value → Option Addr → Hp → Prop}
    (g : Gd C th H ((evL cx its r m).bind f) Rel P We) : ∃ e d, its = [e] ∧ evE cx e r m = .ok d m ∧ Gd C th H (f [d] m) Rel P We ∧ ∀ (k : Nat) (l : Bool), isDict m k = true → evE cx e r (setLk m k l) = .ok d (setLk m k l) := by
  unfold isPath at h
  split at h
  · rename_i i
    rw [evL_one] at g
    cases hr : r[i]?.bind id with
    | none =>
      have : evE cx (.var i) r m = .bad := by simp [evE, hr, R.of]
      rw [this] at g; exact g.elim
    | some d =>
      have : ∀ m, evE cx (.var i) r m = .ok d m := fun m => by simp [evE, hr, R.of]
      rw [this] at g
      exact ⟨.var i, d, rfl, this m, g, fun k l _ => this _⟩
  · rename_i i f0
    rw [evL_one] at g
    cases hr : r[i]?.bind id with
    | none =>
      have : evE cx (.fld (.var i) f0) r m = .bad := by simp [evE, hr, R.of, R.bind]
      rw [this] at g; exact g.elim
    | some o =>
      have ev : ∀ m, evE cx (.fld (.var i) f0) r m = R.of m (fldV o f0 m) := fun m => by simp [evE, hr, R.of, R.bind]
      rw [ev] at g
      cases hf : fldV o f0 m with
      | none => rw [hf] at g; exact g.elim
      | some d =>
        rw [hf] at g
        refine ⟨.fld (.var i) f0, d, rfl, by rw [ev, hf]; rfl, g, fun k l hd => ?_⟩
        rw [ev]
        have : fldV o f0 (setLk m k l) = some d := by
          cases o with
          | ref n =>
            simp only [fldV] at hf ⊢
            split at hf
            · rename_i c fs e
              have ne : k ≠ n := fun z => by
                subst z
                unfold isDict at hd
                rw [e] at hd
                cases hd
              have : (setLk m k l)[n]? = m[n]? := by
                unfold setLk
                split
                · exact List.getElem?_set_ne ne
                · exact List.getElem?_set_ne ne
                · rfl
              rw [this, e]
              exact hf
            · cases hf
          | _ => cases hf
        rw [this]; rfl
  · cases h
theorem mkIt_items {d : D} {m : Mem} {it : HR.It} {m2 : Mem} (h : mkIt .items [d] m = some (it, m2)) : ∃ k, d = .ref k ∧ it = .items k ∧ m2 = setLk m k true ∧ isDict m k = true ∧ ((∃ kvs, m[k]? = some (.dK false kvs)) ∨ ∃ kvs, m[k]? = some (.dT false kvs)) := by
  cases d with
  | ref k =>
    simp only [mkIt] at h
    split at h
    · rename_i kvs e
      cases h
      exact ⟨k, rfl, rfl, rfl, by simp [isDict, e], .inl ⟨kvs, e⟩⟩
    · rename_i kvs e
      cases h
      exact ⟨k, rfl, rfl, rfl, by simp [isDict, e], .inr ⟨kvs, e⟩⟩
    · cases h
  | _ => cases h
/-- the dict that is walked -/
structure Lkd (C : Ct) (th : List Addr) (H : Hp) (m : Mem) (k : Nat) (a : Addr) (u : HO) : Prop where
  hk : th[k]? = some a
  ha : H a = some u
  hu : (∃ kv, u = .dK kv) ∨ ∃ kv, u = .dT kv
theorem Lkd.mut {th : List Addr} {H : Hp} {m : Mem} {k : Nat} {a : Addr} {u : HO} (l : Lkd C th H m k a u) : Mut (some u) := by
  rcases l.hu with ⟨_, rfl⟩ | ⟨_, rfl⟩ <;> trivial
theorem lkd_of {th : List Addr} {H : Hp} {m : Mem} {k : Nat} (S : Sim C th H m) (h : (∃ kvs, m[k]? = some (.dK false kvs)) ∨ ∃ kvs, m[k]? = some (.dT false kvs)) : ∃ a u, Lkd C th H m k a u ∧ ∀ od, Sim C th (upd H a (.frz od u)) (setLk m k true) := by
  rcases h with ⟨kvs, e⟩ | ⟨kvs, e⟩
  · obtain ⟨a, ha, kv, f, q⟩ := S.at_ k _ e
    have f : H a = some (.dK kv) := f
    refine ⟨a, .dK kv, ⟨ha, f, .inl ⟨kv, rfl⟩⟩, fun od => ?_⟩
    have kk : Keep C.K H (upd H a (.frz od (.dK kv))) := keep_upd (.inl (by rw [f]; trivial))
    have : setLk m k true = m.set k (.dK true kvs) := by simp [setLk, e]
    rw [this]
    exact S.set ha kk ⟨kv, ⟨od, upd_same⟩, q.mono (Pre.refl _) kk⟩
  · obtain ⟨a, ha, kv, f, q⟩ := S.at_ k _ e
    have f : H a = some (.dT kv) := f
    refine ⟨a, .dT kv, ⟨ha, f, .inr ⟨kv, rfl⟩⟩, fun od => ?_⟩
    have kk : Keep C.K H (upd H a (.frz od (.dT kv))) := keep_upd (.inl (by rw [f]; trivial))
    have : setLk m k true = m.set k (.dT true kvs) := by simp [setLk, e]
    rw [this]
    exact S.set ha kk ⟨kv, ⟨od, upd_same⟩, q.mono (Pre.refl _) kk⟩
/-- free again -/
theorem Lkd.free {th th' : List Addr} {H H' : Hp} {m m' : Mem} {k : Nat} {a : Addr} {u : HO} {od : Obj} (l : Lkd C th H m k a u) (p : Pre th th') (kp : Keep C.K (upd H a (.frz od u)) H') (S : Sim C th' H' m') :
    H' a = some (.frz od u) ∧ Keep C.K H (upd H' a u) ∧ KeepV C.K H' (upd H' a u) ∧ Sim C th' (upd H' a u) (setLk m' k false) := by
  have f : H' a = some (.frz od u) := kp.frz _ _ _ upd_same
  have kv : KeepV C.K H' (upd H' a u) := by
    refine ⟨fun b xs q => ?_, fun b xs q => ?_⟩
    · rw [upd_ne fun z => ?_]
      · exact q
      · subst z; rw [f] at q; cases q
    · rcases q with ⟨o, q⟩ | q
      · refine .inl ⟨o, ?_⟩
        rw [upd_ne fun z => ?_]
        · exact q
        · subst z; rw [f] at q; cases q
          rcases l.hu with ⟨_, z⟩ | ⟨_, z⟩ <;> cases z
      · exact .inr q
  refine ⟨f, keep_free l.ha l.mut kp, kv, ?_⟩
  have hk' := p _ _ l.hk
  obtain ⟨o, ho⟩ := S.lt hk'
  have oo := S.get ho hk'
  have main : ∀ o', OR C th' (upd H' a u) a o' → Sim C th' (upd H' a u) (m'.set k o') := fun o' h' => by
    refine ⟨by simp [S.len], S.nd, fun j o2 e => ?_⟩
    by_cases hj : k = j
    · subst hj
      have hlt : k < m'.length := by rw [← S.len]; exact (List.getElem?_eq_some_iff.mp hk').1
      rw [List.getElem?_set_self hlt] at e
      cases e
      exact ⟨a, hk', h'⟩
    · rw [List.getElem?_set_ne hj] at e
      obtain ⟨b, h1, h2⟩ := S.at_ j o2 e
      exact ⟨b, h1, h2.monoV (Pre.refl _) kv (upd_ne fun z => hj (nodup_inj S.nd hk' (by rw [← z]; exact h1)))⟩
  cases o with
  | lst ds =>
    obtain ⟨xs, e, _⟩ := oo
    rw [f] at e; cases e
  | ins c fs =>
    obtain ⟨dx, fv, e, _⟩ := oo
    rw [f] at e; cases e
  | dK lk kvs =>
    obtain ⟨kv2, e, q⟩ := oo
    cases lk with
    | false => rw [show H' a = some (.dK kv2) from e] at f; cases f
    | true =>
      obtain ⟨o2, e⟩ := e
      rw [f] at e; cases e
      have : setLk m' k false = m'.set k (.dK false kvs) := by simp [setLk, ho]
      rw [this]
      exact main _ ⟨kv2, upd_same, q.monoV (Pre.refl _) kv⟩
  | dT lk kvs =>
    obtain ⟨kv2, e, q⟩ := oo
    cases lk with
    | false => rw [show H' a = some (.dT kv2) from e] at f; cases f
    | true =>
      obtain ⟨o2, e⟩ := e
      rw [f] at e; cases e
      have : setLk m' k false = m'.set k (.dT false kvs) := by simp [setLk, ho]
      rw [this]
      exact main _ ⟨kv2, upd_same, q.monoV (Pre.refl _) kv⟩
def PrU (u : HO) : Nat → Hp → V → V → Prop := fun i H a b => (∀ kvs, u = .dK kvs → ∃ q, kvs[i]? = some (q, b) ∧ a = kV q) ∧ ∀ kvs, u = .dT kvs → ∃ q w, kvs[i]? = some (q, b) ∧ a = .ref w ∧ H w = some (.tup (q.map kV))
theorem DE.imp {d : Addr} {o : Obj} {u : HO} {es : Array DictEntry} {Pr Pr' : Nat → Hp → V → V → Prop} (h : DE d o u es Pr) (w : ∀ i H a b, Pr i H a b → Pr' i H a b) : DE d o u es Pr' :=
  ⟨fun {X pins σ H s} I hd => let ⟨h1, h2, h3, h4⟩ := h.run I hd; ⟨h1, h2, h3, fun i hi => let ⟨a, b, h5, h6⟩ := h4 i hi; ⟨a, b, w _ _ _ _ h5, h6⟩⟩⟩
theorem de_U {d : Addr} {o : Obj} {u : HO} {es : Array DictEntry} {ep : Nat} (hod : o.data = .dict es ep) (hu : (∃ kv, u = .dK kv) ∨ ∃ kv, u = .dT kv) : DE d o u es (PrU u) := by
  rcases hu with ⟨kv, rfl⟩ | ⟨kv, rfl⟩
  · exact (de_K hod).imp fun i H a b ⟨q, h1, h2⟩ => ⟨fun kvs z => by cases z; exact ⟨q, h1, h2⟩, fun kvs z => by cases z⟩
  · exact (de_T hod).imp fun i H a b ⟨q, w, h1, h2, h3⟩ => ⟨fun kvs z => (by cases z), fun kvs z => by cases z; exact ⟨q, w, h1, h2, h3⟩⟩
/-- the reading of the pairs of a locked dict -/
theorem pairs_at {σ : L2.St} {r : Sl} {th : List Addr} {H : Hp} {m : Mem} {k : Nat} {a : Addr} {u : HO} {od : Obj} {e : E} {Z : L2.It → Hp → Prop} (l : Lkd C th H m k a u) (S : Sim C th (upd H a (.frz od u)) (setLk m k true)) (rs : RS C th H σ r)
    (ev : evE cx e r (setLk m k true) = .ok (.ref k) (setLk m k true))
    (hZ : ∀ J th' H', Pre th th' → Keep C.K (upd H a (.frz od u)) H' → Sim C th' H' (setLk m k true) → Lk C (.items k) J th' H' → Z J H') : iPairs (tE C cx W e) σ (upd H a (.frz od u)) Z := by
  have k1 : Keep C.K H (upd H a (.frz od u)) := keep_upd (.inl (by rw [l.ha]; exact l.mut))
  refine ⟨th, r, setLk m k true, S, rs.mono (Pre.refl _) k1, ?_⟩
  rw [ev]
  intro th' H' v p kp S' rv
  cases rv with
  | ref hk =>
    have := p _ _ l.hk
    rw [this] at hk; cases hk
    have f : H' a = some (.frz od u) := kp.frz _ _ _ upd_same
    refine ⟨a, od, u, rfl, f, l.hu, fun es ep hod hlen => ⟨PrU u, de_U hod l.hu, hZ _ _ _ p kp S' (lk_items this f hlen)⟩⟩
end
end HR

set_option linter.all false
set_option maxRecDepth 100000
set_option maxHeartbeats 2000000
/-! HR, part 12: dict comprehensions with keys of any kind; all comprehensions by the checker. -/
namespace HR
open PySem L2 PyProof.Rows

/-- a comprehension stores under a key of either kind -/
theorem put_comp {X : L2.Cx} {pins : List (Addr × Obj)} {σ : L2.St} {H H' : Hp} {s : Shared} {E : Value → Shared → Prop} {Da : Addr} {y z : V} {u r : Value} {Q : Unit → Shared → Prop} (hu : X.A.units < cLine) (I : Inv X pins σ H s) (g : DPut H Da y z H') (ry : RelV y u) (rz : RelV z r)
    (h : ∀ s', Inv X pins σ H' s' → Q () s') : wpAny (model X.prog X.w) X.A (dictSet Da u r) Q E s := by
  rcases g with ⟨kvs, q, e, rfl, l, rfl⟩ | ⟨kvs, q, b, e, rfl, eb, l, rfl⟩
  · exact d_dictSet I e l ry rz h
  · cases (show u = Value.ref b from ry)
    obtain ⟨z1, hd, xs, rel, dd⟩ := dt_of I.hok e
    have lx : kvs.length = xs.length := Paired.length rel
    have lz := length_putK kvs q z
    refine wpAny_dictSet_heap (hsz := by omega) (knd := tupleKind (mixKind X.prog X.w)) hu (L2.key_of I.hok eb) dd fun hp d2 same => h _ ?_
    obtain ⟨ob, es, ep, w1, w2, w3, w4, _, w5⟩ := d2
    refine d_write I (by rw [e]; trivial) same ⟨ob, w1⟩ ⟨by omega, hd, _, (rel.put q eb rz).keeps fun c ys ec => ?_, ob, es, ep, w1, w2, w3, w4, w5⟩
    rw [upd_ne fun w => ?_]
    · exact ec
    · subst w; rw [e] at ec; cases ec
/-- {k: v for ..}: u0 is the empty dict as it is tracked -/
def tDx (u0 : HO) (wi : TI) (g : TG) (tt : TT) (tk tv : TE) (vs : List Nat) : TE := fun σ H Q => wi σ H fun J H1 => ∀ Da, H1 Da = none → ∃ Wl : Nat → Nat → Hp → Prop, (∃ n, Wl 0 n (upd H1 Da u0)) ∧ ∀ i n Hi, Wl i n Hi →
  (J.stop i Hi ∧ Q (.ref Da) Hi) ∨ (J.go i Hi ∧ ∃ Nx : Hp → Prop, (∀ Hn, Nx Hn → ∃ n', n' < n ∧ Wl (i + 1) n' Hn) ∧ ∀ x Hx, J.yld i Hi x Hx → g x (wipe σ vs) Hx fun σ2 H2 => wipe σ2 vs = wipe σ vs ∧ tt σ2 H2 fun b H3 =>
    if b = true then tk σ2 H3 fun y H4 => tv σ2 H4 fun z H5 => ∃ H6, DPut H5 Da y z H6 ∧ Nx H6 else Nx H3)
/-- what a dict comprehension asks of its parts -/
structure DcOk (X : L2.Cx) (kx vx tg iter : Expr) (ifs : List Expr) (scope : Scope) (own : List (Str × Nat)) (wi : TI) (g : TG) (tt : TT) (tk tv : TE) : Prop where
  hi : PI X tg iter wi
  ok : BlkOk X.N X.env.scope scope own
  hg : ∀ (s : Shared) (H : Hp) (Ca : Addr) (cl : List (Str × Addr)) (fp : List Addr), PG (X.blk s H scope (compEnvC scope cl Ca X.env) fp) tg g
  ht : ∀ (s : Shared) (H : Hp) (Ca : Addr) (cl : List (Str × Addr)) (fp : List Addr), PTs (X.blk s H scope (compEnvC scope cl Ca X.env) fp) ifs tt
  hk : ∀ (s : Shared) (H : Hp) (Ca : Addr) (cl : List (Str × Addr)) (fp : List Addr), PE (X.blk s H scope (compEnvC scope cl Ca X.env) fp) kx tk
  hv : ∀ (s : Shared) (H : Hp) (Ca : Addr) (cl : List (Str × Addr)) (fp : List Addr), PE (X.blk s H scope (compEnvC scope cl Ca X.env) fp) vx tv
  hs : ∀ x, foldedSetIterable iter X.env x = pure x
section
variable {X : L2.Cx} {pins : List (Addr × Obj)} {s : Shared} {σ : L2.St} {H : Hp} {Q : VK} {kx vx tg iter : Expr} {ifs : List Expr} {scope : Scope} {own : List (Str × Nat)} {pos pos' : Pos} {wi : TI} {g : TG} {tt : TT} {tk tv : TE} {u0 : HO}
theorem dx_core {use : Option (Value → Sem Unit)} {Qf : Value → Shared → Prop} (hu0 : u0 = .dK [] ∨ u0 = .dT []) (hu : X.A.units < cLine) (hc : X.calm = true) (hN : X.N.Nodup) (I : Inv X pins σ H s) (d : DcOk X kx vx tg iter ifs scope own wi g tt tk tv) (h : tDx u0 wi g tt tk tv (own.map (·.2)) σ H Q)
    (fin : ∀ Da Ca s' m H', Inv X pins σ H' s' → Q (.ref Da) H' → s'.heap.Ns Ca m → FpOk X pins H' Ca → compPost (model X.prog X.w) X.A X.xe use Qf (.ref Da) Ca (.ok .next) s') :
    wpAny (model X.prog X.w) X.A (comprehension (.DictComp kx vx [⟨tg, iter, ifs, 0⟩] scope pos) scope X.env pos' newDict false (eval iter X.env) use) Qf X.xe s := by
  have fr : ∀ y ∈ scope.names, y.2 = .free → ∃ c, X.env.cells.lookup y.1 = some c := fun y hy e => (d.ok.free y hy e).elim (fun z => I.ok.has _ (.inl z)) fun z => I.ok.has _ (.inr z)
  refine wpAny_comprehension_free (use := use) rfl d.hs (closure_ok fr) d.ok.kind (fun y hy e => (d.ok.uniq y hy).trans (by rw [e])) (thn (d.hi.run pins s σ H _ I h) fun xv sa ha => thn ha fun itv sb hb => ?_)
  obtain ⟨it, fp, tn, J, Hb, rfl, Ib, T, stb, fpb, q⟩ := hb
  refine wpAny_newObj_type (newEnv_comp ?_)
  -- the dict's address
  have fresh : Hb sb.heap.objs.size = none := Ib.hok.fresh (Nat.le_refl _)
  obtain ⟨Wl, ⟨n0, w0⟩, turn⟩ := q _ fresh
  have old : ∀ b ∈ fp, b < sb.heap.objs.size := fun b hb => let ⟨o, e, _⟩ := T.obj _ _ stb b hb; Heap.lt_size e
  obtain ⟨Da, eDa⟩ : ∃ Da, Da = sb.heap.objs.size := ⟨_, rfl⟩
  rw [← eDa] at fresh w0 turn ⊢
  obtain ⟨sc, esc⟩ : ∃ sc : Shared, sc = { sb with heap := sb.heap.push { cls := .type "dict", data := .dict #[] } } := ⟨_, rfl⟩
  have hsc : sc.heap = sb.heap.push { cls := .type "dict", data := .dict #[] } := by rw [esc]
  have Ic : Inv X pins σ (upd Hb Da u0) sc := by
    rw [esc]
    refine Ib.laid (t' := sb.toks) (fun b o e => Heap.get?_push_of_some _ e) (Nat.le_of_eq eDa.symm) ?_
    rw [eDa]
    rcases hu0 with rfl | rfl
    · exact dk_empty _ Ib.big
    · exact dt_empty _ Ib.big
  have fpc : ∀ b ∈ fp, FpOk X pins (upd Hb Da u0) b ∧ b < sc.heap.objs.size := fun b hb => by
    have lt := old b hb
    have ne : b ≠ Da := by rw [eDa]; exact Nat.ne_of_lt lt
    exact ⟨⟨(upd_ne ne).trans (fpb b hb).1, (fpb b hb).2⟩, by rw [hsc, Heap.size_push]; exact Nat.lt_succ_of_lt lt⟩
  have stc : tn 0 sc.heap := T.keep _ _ _ stb fun b _ o e => by rw [hsc]; exact Heap.get?_push_of_some _ e
  have Id := block_start Ic d.ok hN fpc
  obtain ⟨cl, ecl⟩ : ∃ cl, cl = cellsFrom (sc.heap.objs.size + 1) scope.names (cloFrom X.env.cells scope.names []) := ⟨_, rfl⟩
  rw [← ecl] at Id
  obtain ⟨ce, ece⟩ : ∃ ce, ce = compEnvC scope cl sc.heap.objs.size X.env := ⟨_, rfl⟩
  have G1 := d.hg sc (upd Hb Da u0) sc.heap.objs.size cl fp
  have G2 := d.ht sc (upd Hb Da u0) sc.heap.objs.size cl fp
  have G3 := d.hk sc (upd Hb Da u0) sc.heap.objs.size cl fp
  have G4 := d.hv sc (upd Hb Da u0) sc.heap.objs.size cl fp
  rw [← ece] at Id G1 G2 G3 G4
  have loc : ce.locals = sc.heap.objs.size := by rw [ece]; rfl
  have nonefp : ∀ b ∈ fp, (upd Hb Da u0) b = none := fun b hb => (fpc b hb).1.1
  have hgoal : ∀ s4 : Shared, Inv (X.blk sc (upd Hb Da u0) scope ce fp) [] (wipe σ (own.map (·.2))) (upd Hb Da u0) s4 → tn 0 s4.heap →
      codeAny (model X.prog X.w) X.A (.compStart (.DictComp kx vx [⟨tg, iter, ifs, 0⟩] scope pos) 0 (.ref it) (.ref Da) ce) (compPost (model X.prog X.w) X.A X.xe use Qf (.ref Da) sc.heap.objs.size) s4 := by
    intro s4 I4 st4
    have yo : ∀ {σ' : L2.St} {H' : Hp} {s' : Shared}, Inv (X.blk sc (upd Hb Da u0) scope ce fp) [] σ' H' s' → (∀ b ∈ fp, H' b = none) → ∀ b ∈ fp, FpOk (X.blk sc (upd Hb Da u0) scope ce fp) [] H' b := fun {σ' H' s'} I' hn b hb => by
      refine ⟨hn b hb, (I'.ok.exf b hb).1, I'.ok.exfs b hb, .inl hb, fun x c e => (I'.ok.exf b hb).2 x c e, fun p hp => ?_⟩
      cases hp
    suffices lp : codeAny (model X.prog X.w) X.A (.compLoop (.DictComp kx vx [⟨tg, iter, ifs, 0⟩] scope pos) 0 (.ref it) (.ref Da) ce) (compPost (model X.prog X.w) X.A X.xe use Qf (.ref Da) sc.heap.objs.size) s4 from codeAny_compStart_dict lp (T.self X.A 0 _ _ _ st4 lp)
    refine compLoop_anyD (fun n s' => ∃ i H', Inv (X.blk sc (upd Hb Da u0) scope ce fp) [] (wipe σ (own.map (·.2))) H' s' ∧ tn i s'.heap ∧ (∀ b ∈ fp, H' b = none) ∧ Wl i n H') ?_ n0 ⟨0, _, I4, st4, nonefp, w0⟩
    rintro n s5 ⟨i, H5, I5, st5, n5, w5⟩
    rcases turn i n H5 w5 with ⟨stop, done⟩ | ⟨go, Nx, again, step⟩
    · refine thnF (T.done (X.blk sc (upd Hb Da u0) scope ce fp) rfl rfl rfl hc i [] s5 _ H5 (fun _ _ => False) I5 (yo I5 n5) st5 stop) fun r s6 ⟨er, I6⟩ => ?_
      subst er
      have back : Inv X pins σ H5 s6 := Ic.call' (ch := fp) I6.os I6.base I6.hok I6.bare fun b hb => let f := (fpc b hb).1.2; ⟨f.2.2.1, f.1, f.2.2.2.1, f.2.2.2.2⟩
      have gone : H5 ce.locals = none := I6.free
      obtain ⟨m, hn, _⟩ := I6.loc
      have hn : s6.heap.Ns ce.locals m := hn
      rw [loc] at hn gone
      exact fin Da sc.heap.objs.size s6 m H5 back done hn (Ic.fpOk (Nat.le_refl _) gone)
    · refine thnF (T.item (X.blk sc (upd Hb Da u0) scope ce fp) rfl rfl rfl hc i [] s5 _ H5 (fun _ _ => False) I5 (yo I5 n5) st5 go) fun r s6 ⟨v, er, h6⟩ => ?_
      subst er
      refine thnF h6 fun _ s7 ⟨x, H7, I7, r7, y7, st7, n7⟩ => ?_
      have P7 := I7.pinned (yo I7 n7) (T.obj _ _ st7)
      refine thnF (G1.run _ s7 _ H7 x v _ P7 r7 (step x H7 y7)) fun _ s8 ⟨σ8, H8, I8, w8, q8⟩ => ?_
      refine thnF (G2.run _ s8 σ8 H8 _ I8 q8) fun b s9 ⟨H9, I9, q9⟩ => ?_
      have next : ∀ {s' : Shared} {H' : Hp}, Inv (X.blk sc (upd Hb Da u0) scope ce fp) ([] ++ pinsAt fp s7.heap) σ8 H' s' → Nx H' → ∃ m, m < n ∧ ∃ i H', Inv (X.blk sc (upd Hb Da u0) scope ce fp) [] (wipe σ (own.map (·.2))) H' s' ∧ tn i s'.heap ∧ (∀ b ∈ fp, H' b = none) ∧ Wl i m H' := fun {s' H'} I' nx => by
        obtain ⟨n', lt, w'⟩ := again H' nx
        have pinned : ∀ b ∈ fp, ∀ o, s7.heap.get? b = some o → s'.heap.get? b = some o ∧ H' b = none := fun b hb o e => by
          have z := I'.pin (b, o) (List.mem_append_right _ (List.mem_append_right _ (mem_pinsAt hb e)))
          exact ⟨z.1, z.2.1⟩
        have ln : (wipe σ (own.map (·.2))).length = σ8.length := by rw [← w8, wipe_length]
        refine ⟨n', lt, i + 1, H', (I'.unpinned (pins := [])).weak ln (fun j v e => ?_), T.keep _ _ _ st7 fun b hb o e => (pinned b hb o e).1, fun b hb => ?_, w'⟩
        · rw [← w8] at e; exact (wipe_some e).1
        · obtain ⟨o, e, _⟩ := T.obj _ _ st7 b hb
          exact (pinned b hb o e).2
      cases b with
      | false =>
        simp only [Bool.false_eq_true, if_false] at q9 ⊢
        exact next I9 q9
      | true =>
        simp only [if_true] at q9 ⊢
        refine thnF (G3.run _ s9 σ8 H9 _ I9 q9) fun z s10 ⟨ky, H10, I10, r10, q10⟩ => ?_
        refine thnF (G4.run _ s10 σ8 H10 _ I10 q10) fun z2 s11 ⟨vy, H11, I11, r11, H12, dp, nx⟩ => ?_
        exact put_comp (X := X.blk sc (upd Hb Da u0) scope ce fp) hu I11 dp r10 r11 fun s12 I12 => next I12 nx
  subst esc ecl ece
  exact hgoal _ Id (T.keep _ _ _ stc fun b _ o e => pushCells_keeps _ _ _ _ (Heap.get?_push_of_some _ e))
/-- as a value -/
theorem pe_dx (hu0 : u0 = .dK [] ∨ u0 = .dT []) (hu : X.A.units < cLine) (hc : X.calm = true) (hN : X.N.Nodup) (d : DcOk X kx vx tg iter ifs scope own wi g tt tk tv) : PE X (.DictComp kx vx [⟨tg, iter, ifs, 0⟩] scope pos) (tDx u0 wi g tt tk tv (own.map (·.2))) := by
  refine ⟨fun pins s σ H Q I h => ?_⟩
  rw [arm_eval_DictComp]
  exact dx_core hu0 hu hc hN I d h fun Da Ca s' m H' I' q hn f => ⟨m, hn, fun _ sb => ⟨.ref Da, H', I'.turned (t' := s'.toks) (fun b o hb e => (sb.2 b hb).trans e) f.1 f.2.1 f.2.2.2.1 f.2.2.2.2.1 f.2.2.2.2.2, rfl, q⟩⟩
/-- name = {..} on one line, the name a local: it is stored while the block's names still stand -/
theorem ps_setDx {i : Nat} {y : Str} {py spos : Pos} (hu0 : u0 = .dK [] ∨ u0 = .dT []) (hu : X.A.units < cLine) (hc : X.calm = true) (hN : X.N.Nodup) (hy : X.N[i]? = some y) (hyl : X.env.scope.names.lookup y = some .local)
    (hsw : swapsWith (.DictComp kx vx [⟨tg, iter, ifs, 0⟩] scope pos) (some (.Name y py)) spos.line X.env = pure true) (d : DcOk X kx vx tg iter ifs scope own wi g tt tk tv) :
    PS X (.Assign [.Name y py] (.DictComp kx vx [⟨tg, iter, ifs, 0⟩] scope pos) spos) (tAsg (tDx u0 wi g tt tk tv (own.map (·.2))) (gName i)) := by
  refine ⟨fun pins s σ H D I h => ?_⟩
  have h : tDx u0 wi g tt tk tv (own.map (·.2)) σ H (fun x H1 => gName i x σ H1 D.nx) := h
  rw [exec_Assign_Name_used _ _ _ _ hsw]
  refine wpAny_bind (wpAny_standAt (wpAny_bind ?_))
  show wpAny _ X.A (do let _ ← comprehension (.DictComp kx vx [⟨tg, iter, ifs, 0⟩] scope pos) scope X.env (firstIterPos [⟨tg, iter, ifs, 0⟩] pos) newDict false (eval iter X.env) (some (assign (.Name y py) X.env))) _ _ s
  refine wpAny_bind (thn (dx_core (Qf := fun _ s' => SP X pins D .next s') hu0 hu hc hN I d h fun L Ca s' m H' I' q hn f => ?_) fun _ s' hq => wpAny_pure (wpAny_pure hq))
  show wpAny _ _ (assign (.Name y py) X.env (.ref L)) _ _ _
  refine wpAny_assign_Name (store_ok2 (v := V.ref L) I' hN hy (.inl hyl) rfl (fun s2 I2 ⟨a, sb, ha⟩ => ?_) (.inr hyl))
  have ne : Ca ≠ a := ha.elim (fun z => by rw [z]; exact f.2.1) fun z e => f.2.2.2.2.1 y a z e.symm
  exact ⟨m, hn.sameBut sb ne, fun _ sb3 => ⟨_, H', I2.turned (t' := s2.toks) (fun b o hb e => (sb3.2 b hb).trans e) f.1 f.2.1 f.2.2.2.1 f.2.2.2.2.1 f.2.2.2.2.2, q⟩⟩
end
end HR

set_option linter.all false
set_option maxRecDepth 100000
set_option maxHeartbeats 2000000
/-! HR, part 13: comprehensions as the checker reads them. -/
namespace HR
open PySem L2 PyProof.Rows
section
variable {X : L2.Cx} {C : Ct} {ck : Ck} {cx : HR.Cx} {k : Nat} {sc scp : Scope} {W : WX}
theorem dcPut_rule {th : List Addr} {H : Hp} {m m' : Mem} {n : Nat} {Da : Addr} {y z : V} {a b : D} (S : Sim C th H m) (hk : th[n]? = some Da) (ry : RV C.K th H y a) (rz : RV C.K th H z b) (e : dcPut n a b m = some m') :
    ∃ H', DPut H Da y z H' ∧ Keep C.K H H' ∧ Sim C th H' m' := by
  unfold dcPut at e
  split at e
  · rename_i kvs em
    simp only [Option.bind_eq_some_iff] at e
    obtain ⟨q, eq, e2⟩ := e
    split at e2
    · rename_i hz
      cases e2
      obtain ⟨kv, f, rel⟩ := S.get em hk
      have f : H Da = some (.dK kv) := f
      have kk : Keep C.K H (upd H Da (.dK (L2.putK kv q z))) := keep_upd (.inl (by rw [f]; trivial))
      refine ⟨_, .inl ⟨kv, q, f, key_of ry eq, big_lt (by rw [rel.length]; exact hz), rfl⟩, kk, ?_⟩
      exact S.set (o := .dK false (HR.putK kvs q b)) hk kk ⟨_, upd_same, (rel.mono (Pre.refl _) kk).put (rz.mono (Pre.refl _) kk)⟩
    · cases e2
  · rename_i kvs em
    simp only [Option.bind_eq_some_iff] at e
    obtain ⟨q, eq, e2⟩ := e
    split at e2
    · rename_i hz
      cases e2
      obtain ⟨kv, f, rel⟩ := S.get em hk
      have f : H Da = some (.dT kv) := f
      obtain ⟨bb, rfl, eb⟩ := keysOf_rule ry eq
      have kk : Keep C.K H (upd H Da (.dT (L2.putK kv q z))) := keep_upd (.inl (by rw [f]; trivial))
      refine ⟨_, .inr ⟨kv, q, bb, f, rfl, eb, big_lt (by rw [rel.length]; exact hz), rfl⟩, kk, ?_⟩
      exact S.set (o := .dT false (HR.putK kvs q b)) hk kk ⟨_, upd_same, (rel.mono (Pre.refl _) kk).put (rz.mono (Pre.refl _) kk)⟩
    · cases e2
  · cases e
def RO2 (C : Ct) (th : List Addr) (H : Hp) : Option (V × V) → Option (D × D) → Prop
  | none, none => True
  | some v, some d => RV C.K th H v.1 d.1 ∧ RV C.K th H v.2 d.2
  | _, _ => False
def dcTurn (cx : HR.Cx) (own : List Nat) (p : P) (cond : List E) (ke ve : E) (r : Sl) (x : D) (m : Mem) : R (Option (D × D)) :=
  match asgP p x (wipeS r own) with
  | none => .bad
  | some r1 => ((evL cx cond r1 m).bind fun cs m2 => (R.of m2 (condB cs)).bind fun b m3 =>
      if b = true then (evE cx ke r1 m3).bind fun x m4 => (evE cx ve r1 m4).bind fun y m5 => .ok (some (x, y)) m5 else .ok none m3).calm
theorem dc_loop {it : HR.It} {J : L2.It} {th0 : List Addr} {H0 : Hp} {σ : L2.St} {r : Sl} {own : List Nat} {p : P} {cond : List E} {ke ve : E} {kD : Nat} {Da : Addr} {Pd : List Addr → Unit → Hp → Mem → Prop} {We : Value → Option Addr → Hp → Prop} {Qd : Hp → Prop} {m0 : Mem}
    (lk : Lk C it J th0 H0) (hk : th0[kD]? = some Da) (rs : RS C th0 H0 σ r) (hown : ∀ i ∈ slotsP p, i ∈ own)
    (S : Sim C th0 H0 m0) (g : Gd C th0 H0 (dcLoop it (dcTurn cx own p cond ke ve r) kD FU 0 m0) (fun _ _ _ _ => True) Pd We)
    (hend : ∀ th H m, Pre th0 th → Keep C.K H0 H → Sim C th H m → Pd th () H m → Qd H) :
    ∃ Wl : Nat → Nat → Hp → Prop, (∃ n, Wl 0 n H0) ∧ ∀ i n Hi, Wl i n Hi → (J.stop i Hi ∧ Qd Hi) ∨ (J.go i Hi ∧ ∃ Nx : Hp → Prop, (∀ Hn, Nx Hn → ∃ n', n' < n ∧ Wl (i + 1) n' Hn) ∧ ∀ x Hx, J.yld i Hi x Hx →
      gP C.K p x (wipe σ own) Hx fun σ2 H2 => wipe σ2 own = wipe σ own ∧ tTs C cx cond σ2 H2 fun b H3 =>
        if b = true then tE C cx WF ke σ2 H3 fun y H4 => tE C cx WF ve σ2 H4 fun z H5 => ∃ H6, DPut H5 Da y z H6 ∧ Nx H6 else Nx H3) := by
  refine ⟨fun i n H => ∃ th m, Pre th0 th ∧ Keep C.K H0 H ∧ Sim C th H m ∧ Gd C th H (dcLoop it (dcTurn cx own p cond ke ve r) kD n i m) (fun _ _ _ _ => True) Pd We, ⟨FU, th0, m0, Pre.refl _, Keep.refl _ _, S, g⟩, ?_⟩
  rintro i n H ⟨th, m, pr, kp, S1, g1⟩
  cases n with
  | zero => exact g1.elim
  | succ n =>
    unfold dcLoop at g1
    cases hn : it.nth i m with
    | none => rw [hn] at g1; exact g1.elim
    | some o =>
      rw [hn] at g1
      cases o with
      | none => exact .inl ⟨lk.stop i th H m pr kp S1 hn, hend th H m pr kp S1 (Gd.here (b := ()) S1 trivial g1)⟩
      | some x =>
        obtain ⟨go, yl⟩ := lk.go i th H m x pr kp S1 hn
        refine .inr ⟨go, fun H' => ∃ th m, Pre th0 th ∧ Keep C.K H0 H' ∧ Sim C th H' m ∧ Gd C th H' (dcLoop it (dcTurn cx own p cond ke ve r) kD n (i + 1) m) (fun _ _ _ _ => True) Pd We, fun H' h => ⟨n, Nat.lt_succ_self _, h⟩, fun v H' hy => ?_⟩
        obtain ⟨ky, Sy, rv⟩ := yl v H' hy
        have g2 := Gd.shift (Pre.refl _) ky g1
        have g3 := Gd.bind (Rel := fun th H b a => RO2 C th H b a) g2
        have rs1 := (rs.mono pr (kp.trans ky)).wipe own
        cases ha : asgP p x (wipeS r own) with
        | none =>
          simp only [dcTurn, ha] at g3
          exact g3.elim
        | some r1 =>
          refine gP_ok p rs1 rv ha fun σ2 rs2 hw => ⟨wipeW hown hw, ?_⟩
          simp only [dcTurn, ha] at g3
          have g4 := Gd.calm (W' := fun _ _ _ => False) g3
          rw [← R.bind_assoc] at g4
          refine ⟨th, r1, m, Sy, rs2, (Gd.bind (Rel := fun _ _ (b : Bool) a => b = a) g4).imp ?_⟩
          rintro th3 b H3 m3 ⟨b', e3, p3, k3, S3, rfl, g5⟩
          have rs3 := rs2.mono p3 k3
          cases b with
          | false =>
            simp only [Bool.false_eq_true, if_false] at g5 ⊢
            obtain ⟨a, e6, p6, k6, S6, ro, g6⟩ := Gd.here (b := none) S3 trivial g5
            cases a with
            | some _ => exact ro.elim
            | none => exact ⟨th3, m3, pr.trans p3, (kp.trans ky).trans k3, S3, g6⟩
          | true =>
            simp only [if_true] at g5 ⊢
            refine stepE (W := WF) S3 rs3 g5 fun th4 w H4 m4 d S4 rs4 rw4 p4 k4 _ g6 => ?_
            refine stepE (W := WF) S4 rs4 g6 fun th5 w2 H5 m5 d2 S5 rs5 rw5 p5 k5 _ g7 => ?_
            obtain ⟨a, e7, p7, k7, S7, ro, g8⟩ := Gd.here (b := some (w, w2)) S5 ⟨rw4.mono p5 k5, rw5⟩ g7
            cases a with
            | none => exact ro.elim
            | some dd =>
              obtain ⟨ra, rb⟩ : RV C.K th5 H5 w dd.1 ∧ RV C.K th5 H5 w2 dd.2 := ro
              have hk5 : th5[kD]? = some Da := p5 _ _ (p4 _ _ (p3 _ _ (pr _ _ hk)))
              simp only at g8
              split at g8
              · rename_i m6 em
                obtain ⟨H6, dp, k6, S6⟩ := dcPut_rule S5 hk5 ra rb em
                exact ⟨H6, dp, th5, m6, ((pr.trans p3).trans p4).trans p5, ((((kp.trans ky).trans k3).trans k4).trans k5).trans k6, S6, Gd.shift (Pre.refl _) k6 g8⟩
              · exact g8.elim
def d0 (tk : Bool) : HO := if tk then .dT [] else .dK []
def o0 (tk : Bool) : O := if tk then .dT false [] else .dK false []
section
variable {own : List Nat} {ik : IK} {its : List E} {p : P} {cond : List E} {elt ke ve : E} {tk : Bool} {x kx vx tg iter : Expr} {ifs : List Expr} {sc2 : Scope} {pos : Pos}
theorem dc_eq {r : Sl} {m : Mem} : evE cx (.dc tk own ik its p cond ke ve) r m = (evL cx its r m).bind fun ds m1 =>
    match mkIt ik ds m1 with
    | none => .bad
    | some (J, m2) => (dcLoop J (dcTurn cx own p cond ke ve r) m2.length FU 0 (m2 ++ [o0 tk])).bind fun _ m5 => .ok (.ref m2.length) (endIt J m5) := by
  rw [evE]
  rfl
theorem dc_tail {σ : L2.St} {r : Sl} {th : List Addr} {H : Hp} {m2 : Mem} {it : HR.It} {J : L2.It} {Pd : List Addr → Unit → Hp → Mem → Prop} {We : Value → Option Addr → Hp → Prop} (lk : Lk C it J th H) (S : Sim C th H m2) (rs : RS C th H σ r) (hown : ∀ i ∈ slotsP p, i ∈ own) {Qd : Addr → Hp → Prop}
    (g : Gd C th H (dcLoop it (dcTurn cx own p cond ke ve r) m2.length FU 0 (m2 ++ [o0 tk])) (fun _ _ _ _ => True) Pd We)
    (hend : ∀ th' H' m' Da, Pre th th' → Keep C.K H H' → Sim C th' H' m' → th'[m2.length]? = some Da → Pd th' () H' m' → Qd Da H') :
    ∀ Da, H Da = none → ∃ Wl : Nat → Nat → Hp → Prop, (∃ n, Wl 0 n (upd H Da (d0 tk))) ∧ ∀ i n Hi, Wl i n Hi → (J.stop i Hi ∧ Qd Da Hi) ∨ (J.go i Hi ∧ ∃ Nx : Hp → Prop, (∀ Hn, Nx Hn → ∃ n', n' < n ∧ Wl (i + 1) n' Hn) ∧ ∀ x Hx, J.yld i Hi x Hx →
      gP C.K p x (wipe σ own) Hx fun σ2 H2 => wipe σ2 own = wipe σ own ∧ tTs C cx cond σ2 H2 fun b H3 =>
        if b = true then tE C cx WF ke σ2 H3 fun y H4 => tE C cx WF ve σ2 H4 fun z H5 => ∃ H6, DPut H5 Da y z H6 ∧ Nx H6 else Nx H3) := by
  intro Da hD
  have k1 : Keep C.K H (upd H Da (d0 tk)) := keep_upd (.inr hD)
  have p1 : Pre th (th ++ [Da]) := Pre.snoc _ _
  have S1 : Sim C (th ++ [Da]) (upd H Da (d0 tk)) (m2 ++ [o0 tk]) := S.new hD k1 (by cases tk <;> exact ⟨[], upd_same, .nil⟩)
  have hidx : (th ++ [Da])[m2.length]? = some Da := by rw [← S.len, List.getElem?_append_right (Nat.le_refl _)]; simp
  exact dc_loop (lk.mono p1 k1) hidx (rs.mono p1 k1) hown S1 (Gd.shift p1 k1 g) fun th' H' m' p' k' S' q =>
    hend th' H' m' Da (p1.trans p') (k1.trans k') S' (p' _ _ hidx) q
/-- how both kinds of comprehension come from their loops -/
theorem comp_split {r : Sl} {m : Mem} {th : List Addr} {H : Hp} {σ : L2.St} {Q : VK} {L : HR.It → Mem → R Unit} (hik : ik ≠ .items)
    (h : GV C th H ((evL cx its r m).bind fun ds m1 => match mkIt ik ds m1 with
      | none => .bad
      | some (J, m2) => (L J m2).bind fun _ m5 => .ok (.ref m2.length) (endIt J m5)) Q (fun cl d H' => W cl d σ H')) :
    Gd C th H ((evL cx its r m).bind fun ds m1 => R.of m1 (mkIt ik ds m1)) (fun th' H' (J : L2.It) (p : HR.It × Mem) => Lk C p.1 J th' H')
      (fun th1 J H1 m1 => ∃ it, Pre th th1 ∧ Keep C.K H H1 ∧ Sim C th1 H1 m1 ∧ Lk C it J th1 H1 ∧ Gd C th1 H1 (L it m1) (fun _ _ (_ : Unit) _ => True) (fun th' _ H' m' => ∀ Da, th'[m1.length]? = some Da → Q (.ref Da) H') (fun cl d H' => W cl d σ H')) (fun cl d H' => W cl d σ H') := by
  have h2 : Gd C th H (((evL cx its r m).bind fun ds m1 => R.of m1 (mkIt ik ds m1)).bind fun q m1 => (L q.1 q.2).bind fun _ m5 => .ok (.ref q.2.length) (endIt q.1 m5))
      (fun th' H' v d => RV C.K th' H' v d) (fun _ v H' _ => Q v H') (fun cl d H' => W cl d σ H') := by
    rw [R.bind_assoc]
    have : (fun (ds : List D) m1 => (R.of m1 (mkIt ik ds m1)).bind fun q m1 => (L q.1 q.2).bind fun _ m5 => R.ok (D.ref q.2.length) (endIt q.1 m5)) = fun ds m1 =>
        match mkIt ik ds m1 with
        | none => .bad
        | some (J, m2) => (L J m2).bind fun _ m5 => .ok (.ref m2.length) (endIt J m5) := by
      funext ds m1
      cases mkIt ik ds m1 <;> rfl
    rw [this]
    exact h
  have hb := Gd.bind (Rel := fun th' H' (J : L2.It) (p : HR.It × Mem) => Lk C p.1 J th' H') h2
  refine hb.imp ?_
  rintro th1 J H1 m1 ⟨⟨it, m2⟩, e1, p1, k1, S1, lk, g⟩
  obtain ⟨rfl, hend⟩ : m2 = m1 ∧ ∀ m', endIt it m' = m' := by
    cases e2 : evL cx its r m with
    | ok ds m1' =>
      rw [e2, R.bind_ok] at e1
      cases e3 : mkIt ik ds m1' with
      | none => rw [e3] at e1; cases e1
      | some q =>
        rw [e3] at e1
        cases e1
        exact mkIt_same e3 hik
    | exn _ _ _ => rw [e2] at e1; cases e1
    | bad => rw [e2] at e1; cases e1
  simp only [hend] at g
  refine ⟨it, p1, k1, S1, lk, (Gd.bind (Rel := fun _ _ _ _ => True) g).imp ?_⟩
  rintro th' _ H' m' ⟨_, _, _, _, S2, _, q⟩ Da hk
  exact Gd.here S2 (.ref hk) q
theorem dc_wk (G : Good C ck cx k sc W X) (hown : ∀ i ∈ slotsP p, i ∈ own) (hik : ik ≠ .items) : ∀ σ H Q, tE C cx W (.dc tk own ik its p cond ke ve) σ H Q → tDx (d0 tk) (tI C cx W ik its) (gP X.K p) (tTs C cx cond) (tE C cx WF ke) (tE C cx WF ve) own σ H Q := by
  intro σ H Q ⟨th, r, m, S, rs, h⟩
  rw [dc_eq] at h
  rw [G.gx.hK]
  refine ⟨th, r, m, S, rs, (comp_split (L := fun J m2 => dcLoop J (dcTurn cx own p cond ke ve r) m2.length FU 0 (m2 ++ [o0 tk])) hik h).imp ?_⟩
  rintro th1 J H1 m1 ⟨it, p1, k1, S1, lk, g⟩
  exact dc_tail lk S1 (rs.mono p1 k1) hown (Qd := fun D H => Q (.ref D) H) g fun th' H' m' Da p' k' S' hk q => q Da hk
/-- a loop over the pairs, and the dict free again behind it -/
theorem unlock_x {x : R Unit} {n : Nat} {th th' : List Addr} {H H' : Hp} {m : Mem} {kd : Nat} {a : Addr} {u : HO} {od : Obj} {Q : VK} {We : Value → Option Addr → Hp → Prop} (l : Lkd C th H m kd a u) (p : Pre th th') (kp : Keep C.K (upd H a (.frz od u)) H')
    (g : GV C th H (x.bind fun _ m5 => .ok (.ref n) (setLk m5 kd false)) Q We) : Gd C th' H' x (fun _ _ (_ : Unit) _ => True) (fun t2 _ Hx _ => Hx a = some (.frz od u) ∧ ∀ Da, t2[n]? = some Da → Q (.ref Da) (upd Hx a u)) (fun _ _ _ => True) := by
  cases x with
  | bad => exact g.elim
  | exn c fs m => exact fun _ _ _ _ _ _ _ => fun _ => trivial
  | ok u0 m5 =>
    intro t2 Hx b p2 k2 S2 _
    obtain ⟨f, kf, kv, Sf⟩ := l.free (p.trans p2) (kp.trans k2) S2
    exact ⟨f, fun Da hk => g t2 (upd Hx a u) (.ref Da) (p.trans p2) kf Sf (.ref hk)⟩
theorem lc_pairs (G : Good C ck cx k sc W X) (hown : ∀ i ∈ slotsP p, i ∈ own) (hp : isPath its = true) {e : E} (he : its = [e]) : ∀ σ H Q, tE C cx W (.lc own .items its p cond elt) σ H Q →
    ∃ d u, H d = some u ∧ Mut (some u) ∧ ∀ od, tLc (iPairs (tE C cx W e)) (gP X.K p) (tTs C cx cond) (tE C cx WF elt) own σ (upd H d (.frz od u)) fun v H' => H' d = some (.frz od u) ∧ Q v (upd H' d u) := by
  intro σ H Q ⟨th, r, m, S, rs, h⟩
  rw [lc_eq] at h
  rw [G.gx.hK]
  obtain ⟨e', d, rfl, e1, g, hl⟩ := path_ev (j := 0) hp h
  cases he
  split at g
  · exact g.elim
  · rename_i it m2 hm
    obtain ⟨kd, rfl, rfl, rfl, hd, hd2⟩ := mkIt_items hm
    obtain ⟨a, u, l, Sl⟩ := lkd_of S hd2
    refine ⟨a, u, l.ha, l.mut, fun od => ?_⟩
    have kl : Keep C.K H (upd H a (.frz od u)) := keep_upd (.inl (by rw [l.ha]; exact l.mut))
    exact pairs_at l (Sl od) rs (hl kd true hd) fun J th' H' p' k' S' lk =>
      lc_tail lk S' (rs.mono p' (kl.trans k')) hown (Qd := fun Da H => H a = some (.frz od u) ∧ Q (.ref Da) (upd H a u)) (unlock_x l p' k' g) fun t2 H2 m2 Da _ _ _ hk q => ⟨q.1, q.2 Da hk⟩
theorem dc_pairs (G : Good C ck cx k sc W X) (hown : ∀ i ∈ slotsP p, i ∈ own) (hp : isPath its = true) {e : E} (he : its = [e]) : ∀ σ H Q, tE C cx W (.dc tk own .items its p cond ke ve) σ H Q →
    ∃ d u, H d = some u ∧ Mut (some u) ∧ ∀ od, tDx (d0 tk) (iPairs (tE C cx W e)) (gP X.K p) (tTs C cx cond) (tE C cx WF ke) (tE C cx WF ve) own σ (upd H d (.frz od u)) fun v H' => H' d = some (.frz od u) ∧ Q v (upd H' d u) := by
  intro σ H Q ⟨th, r, m, S, rs, h⟩
  rw [dc_eq] at h
  rw [G.gx.hK]
  obtain ⟨e', d, rfl, e1, g, hl⟩ := path_ev (j := 0) hp h
  cases he
  split at g
  · exact g.elim
  · rename_i it m2 hm
    obtain ⟨kd, rfl, rfl, rfl, hd, hd2⟩ := mkIt_items hm
    obtain ⟨a, u, l, Sl⟩ := lkd_of S hd2
    refine ⟨a, u, l.ha, l.mut, fun od => ?_⟩
    have kl : Keep C.K H (upd H a (.frz od u)) := keep_upd (.inl (by rw [l.ha]; exact l.mut))
    exact pairs_at l (Sl od) rs (hl kd true hd) fun J th' H' p' k' S' lk =>
      dc_tail lk S' (rs.mono p' (kl.trans k')) hown (Qd := fun Da H => H a = some (.frz od u) ∧ Q (.ref Da) (upd H a u)) (unlock_x l p' k' g) fun t2 H2 m2 Da _ _ _ hk q => ⟨q.1, q.2 Da hk⟩
end
end
end HR

set_option linter.all false
set_option maxRecDepth 100000
set_option maxHeartbeats 4000000
/-! HR, part 14: expressions: the checker's word is enough. -/
namespace HR
open PySem L2 PyProof.Rows

theorem vName_eq {e : Expr} {x : Str} (h : vName e = some x) : ∃ p, e = .Name x p := by
  cases e <;> first | (cases h; done) | (cases h; exact ⟨_, rfl⟩)
theorem vConst_eq {e : Expr} {x : Const} (h : vConst e = some x) : ∃ j p, e = .Constant x j p := by
  cases e <;> first | (cases h; done) | (cases h; exact ⟨_, _, rfl⟩)
theorem vBin_eq {e a b : Expr} {o : Operator} (h : vBin e = some (a, o, b)) : ∃ p, e = .BinOp a o b p := by
  cases e <;> first | (cases h; done) | (cases h; exact ⟨_, rfl⟩)
theorem vUn_eq {e a : Expr} {o : UnaryOp} (h : vUn e = some (o, a)) : ∃ p, e = .UnaryOp o a p := by
  cases e <;> first | (cases h; done) | (cases h; exact ⟨_, rfl⟩)
theorem vCmp_eq {e a : Expr} {o : List CmpOp} {b : List Expr} (h : vCmp e = some (a, o, b)) : ∃ p, e = .Compare a o b p := by
  cases e <;> first | (cases h; done) | (cases h; exact ⟨_, rfl⟩)
theorem vBool_eq {e : Expr} {o : BoolOp} {es : List Expr} {p : Pos} (h : vBool e = some (o, es, p)) : e = .BoolOp o es p := by
  cases e <;> first | (cases h; done) | (cases h; rfl)
theorem vIf_eq {e c a b : Expr} (h : vIf e = some (c, a, b)) : ∃ p, e = .IfExp c a b p := by
  cases e <;> first | (cases h; done) | (cases h; exact ⟨_, rfl⟩)
theorem vTup_eq {e : Expr} {es : List Expr} (h : vTup e = some es) : ∃ j p, e = .Tuple es j p := by
  cases e <;> first | (cases h; done) | (cases h; exact ⟨_, _, rfl⟩)
theorem vLst_eq {e : Expr} {es : List Expr} (h : vLst e = some es) : ∃ p, e = .List es p := by
  cases e <;> first | (cases h; done) | (cases h; exact ⟨_, rfl⟩)
theorem vSub_eq {e a b : Expr} (h : vSub e = some (a, b)) : ∃ p, e = .Subscript a b p := by
  cases e <;> first | (cases h; done) | (cases h; exact ⟨_, rfl⟩)
theorem vSlc_eq {e a : Expr} {l h' : Option Expr} (h : vSlc e = some (a, l, h')) : ∃ p2 p, e = .Subscript a (.Slice l h' none p2) p := by
  unfold vSlc at h
  split at h
  · cases h; exact ⟨_, _, rfl⟩
  · cases h
theorem vAttr_eq {e a : Expr} {f : Str} (h : vAttr e = some (a, f)) : ∃ p, e = .Attribute a f p := by
  cases e <;> first | (cases h; done) | (cases h; exact ⟨_, rfl⟩)
theorem vCallN_eq {e : Expr} {x : Str} {es : List Expr} (h : vCallN e = some (x, es)) : ∃ p q, e = .Call (.Name x p) es [] q := by
  unfold vCallN at h
  split at h
  · cases h; exact ⟨_, _, rfl⟩
  · cases h
theorem vCallA_eq {e o : Expr} {m : Str} {p q : Pos} {es : List Expr} (h : vCallA e = some (o, m, p, es, q)) : e = .Call (.Attribute o m p) es [] q := by
  unfold vCallA at h
  split at h
  · cases h; rfl
  · cases h
theorem vLc_eq {e x : Expr} {g : Comprehension} {sc : Scope} (h : vLc e = some (x, g, sc)) : ∃ p, e = .ListComp x [g] sc p := by
  unfold vLc at h
  split at h
  · cases h; exact ⟨_, rfl⟩
  · cases h
theorem vDc_eq {e x y : Expr} {g : Comprehension} {sc : Scope} (h : vDc e = some (x, y, g, sc)) : ∃ p, e = .DictComp x y [g] sc p := by
  unfold vDc at h
  split at h
  · cases h; exact ⟨_, rfl⟩
  · cases h

section
variable {X : L2.Cx} {C : Ct} {ck : Ck} {cx : HR.Cx} {k : Nat} {sc scp : Scope} {W : WX}
theorem pt_ifE {c a b : Expr} {pos : Pos} {t u v : TT} (hc : PT X c t) (ha : PT X a u) (hb : PT X b v) : PT X (.IfExp c a b pos) (fun σ H Q => t σ H fun d H1 => if d = true then u σ H1 Q else v σ H1 Q) := by
  refine ⟨fun pins s σ H Q I h => ?_⟩
  show wpAny _ _ (do if ← isTrue c X.env (eval c X.env) then isTrue a X.env (eval a X.env) else isTrue b X.env (eval b X.env)) _ _ s
  refine wpAny_bind (thn (hc.run pins s σ H _ I h) fun d s1 ⟨H1, I1, q1⟩ => ?_)
  cases d with
  | true => exact ha.run pins s1 σ H1 Q I1 q1
  | false => exact hb.run pins s1 σ H1 Q I1 q1
/-! tests, one step -/
theorem tst_not {a : E} {r : Sl} {m : Mem} : tstE cx (.not a) r m = (tstE cx a r m).bind fun b m1 => .ok (!b) m1 := by
  unfold tstE
  rw [evE]
  cases evE cx a r m with
  | ok x m1 =>
    simp only [R.bind_ok]
    cases boolOf x <;> rfl
  | exn _ _ _ => rfl
  | bad => rfl
theorem tst_and {a b : E} {r : Sl} {m : Mem} : tstE cx (.and a b) r m = (tstE cx a r m).bind fun d m1 => if d = true then tstE cx b r m1 else .ok false m1 := by
  unfold tstE
  rw [evE]
  cases evE cx a r m with
  | ok x m1 =>
    simp only [R.bind_ok]
    cases boolOf x with
    | none => rfl
    | some d => cases d <;> rfl
  | exn _ _ _ => rfl
  | bad => rfl
theorem tst_or {a b : E} {r : Sl} {m : Mem} : tstE cx (.or a b) r m = (tstE cx a r m).bind fun d m1 => if d = true then .ok true m1 else tstE cx b r m1 := by
  unfold tstE
  rw [evE]
  cases evE cx a r m with
  | ok x m1 =>
    simp only [R.bind_ok]
    cases boolOf x with
    | none => rfl
    | some d => cases d <;> rfl
  | exn _ _ _ => rfl
  | bad => rfl
theorem tst_ite {c a b : E} {r : Sl} {m : Mem} : tstE cx (.ite c a b) r m = (tstE cx c r m).bind fun d m1 => if d = true then tstE cx a r m1 else tstE cx b r m1 := by
  unfold tstE
  rw [evE]
  cases evE cx c r m with
  | ok x m1 =>
    simp only [R.bind_ok]
    cases boolOf x with
    | none => rfl
    | some d => cases d <;> rfl
  | exn _ _ _ => rfl
  | bad => rfl
theorem ev_and {a b : E} {r : Sl} {m : Mem} : evE cx (.and a b) r m = (evE cx a r m).bind fun x m1 => (R.of m1 (boolOf x)).bind fun d m1 => if d = true then evE cx b r m1 else .ok (.bl false) m1 := by
  rw [evE]
  cases evE cx a r m with
  | ok x m1 =>
    simp only [R.bind_ok]
    cases boolOf x with
    | none => rfl
    | some d => cases d <;> rfl
  | exn _ _ _ => rfl
  | bad => rfl
theorem ev_or {a b : E} {r : Sl} {m : Mem} : evE cx (.or a b) r m = (evE cx a r m).bind fun x m1 => (R.of m1 (boolOf x)).bind fun d m1 => if d = true then .ok (.bl true) m1 else evE cx b r m1 := by
  rw [evE]
  cases evE cx a r m with
  | ok x m1 =>
    simp only [R.bind_ok]
    cases boolOf x with
    | none => rfl
    | some d => cases d <;> rfl
  | exn _ _ _ => rfl
  | bad => rfl
theorem ev_ite {c a b : E} {r : Sl} {m : Mem} : evE cx (.ite c a b) r m = (tstE cx c r m).bind fun d m1 => if d = true then evE cx a r m1 else evE cx b r m1 := by
  unfold tstE
  rw [evE]
  cases evE cx c r m with
  | ok x m1 =>
    simp only [R.bind_ok]
    cases boolOf x with
    | none => rfl
    | some d => cases d <;> rfl
  | exn _ _ _ => rfl
  | bad => rfl
theorem wk_not {a : E} : ∀ σ H Q, tT C cx W (.not a) σ H Q → tNot (tT C cx W a) σ H Q := fun σ H Q ⟨th, r, m, S, rs, h⟩ => by
  rw [tst_not] at h
  exact stepT S rs h fun th1 b H1 m1 S1 rs1 p kp g => Gd.here S1 rfl g
theorem wk_and {a b : E} : ∀ σ H Q, tT C cx W (.and a b) σ H Q → tAnd (tT C cx W a) (tT C cx W b) σ H Q := fun σ H Q ⟨th, r, m, S, rs, h⟩ => by
  rw [tst_and] at h
  refine stepT S rs h fun th1 b H1 m1 S1 rs1 p kp g => ?_
  cases b with
  | true => exact ⟨th1, r, m1, S1, rs1, g⟩
  | false => exact Gd.here S1 rfl g
theorem wk_or {a b : E} : ∀ σ H Q, tT C cx W (.or a b) σ H Q → tOr (tT C cx W a) (tT C cx W b) σ H Q := fun σ H Q ⟨th, r, m, S, rs, h⟩ => by
  rw [tst_or] at h
  refine stepT S rs h fun th1 b H1 m1 S1 rs1 p kp g => ?_
  cases b with
  | false => exact ⟨th1, r, m1, S1, rs1, g⟩
  | true => exact Gd.here S1 rfl g
theorem wk_andV {a b : E} : ∀ σ H Q, tE C cx W (.and a b) σ H Q → tAndV (tE C cx W a) (tE C cx W b) σ H Q := fun σ H Q ⟨th, r, m, S, rs, h⟩ => by
  rw [ev_and] at h
  refine stepE S rs h fun th1 v H1 m1 d S1 rs1 rv p kp _ g => ?_
  cases hb : boolOf d with
  | none => rw [hb] at g; exact g.elim
  | some b =>
    rw [hb] at g
    refine ⟨b, bool_of rv hb, ?_⟩
    cases b with
    | true => exact ⟨th1, r, m1, S1, rs1, g⟩
    | false => exact gv_here S1 (.bl _) g
theorem wk_orV {a b : E} : ∀ σ H Q, tE C cx W (.or a b) σ H Q → tOrV (tE C cx W a) (tE C cx W b) σ H Q := fun σ H Q ⟨th, r, m, S, rs, h⟩ => by
  rw [ev_or] at h
  refine stepE S rs h fun th1 v H1 m1 d S1 rs1 rv p kp _ g => ?_
  cases hb : boolOf d with
  | none => rw [hb] at g; exact g.elim
  | some b =>
    rw [hb] at g
    refine ⟨b, bool_of rv hb, ?_⟩
    cases b with
    | false => exact ⟨th1, r, m1, S1, rs1, g⟩
    | true => exact gv_here S1 (.bl _) g
theorem wk_ite {c a b : E} : ∀ σ H Q, tE C cx W (.ite c a b) σ H Q → tIf (tT C cx W c) (tE C cx W a) (tE C cx W b) σ H Q := fun σ H Q ⟨th, r, m, S, rs, h⟩ => by
  rw [ev_ite] at h
  refine stepT S rs h fun th1 b H1 m1 S1 rs1 p kp g => ?_
  cases b with
  | true => exact ⟨th1, r, m1, S1, rs1, g⟩
  | false => exact ⟨th1, r, m1, S1, rs1, g⟩
theorem wk_iteT {c a b : E} : ∀ σ H Q, tT C cx W (.ite c a b) σ H Q → tT C cx W c σ H fun d H1 => if d = true then tT C cx W a σ H1 Q else tT C cx W b σ H1 Q := fun σ H Q ⟨th, r, m, S, rs, h⟩ => by
  rw [tst_ite] at h
  refine stepT S rs h fun th1 b H1 m1 S1 rs1 p kp g => ?_
  cases b with
  | true => exact ⟨th1, r, m1, S1, rs1, g⟩
  | false => exact ⟨th1, r, m1, S1, rs1, g⟩
theorem wk_notV {a : E} : ∀ σ H Q, tE C cx W (.not a) σ H Q → tNotV (tE C cx W a) σ H Q := fun σ H Q ⟨th, r, m, S, rs, h⟩ => by
  unfold evE at h
  refine stepE S rs h fun th1 v H1 m1 d S1 rs1 rv p kp _ g => ?_
  obtain ⟨x, ex, g2⟩ := gd_of g
  cases hb : boolOf d with
  | none => rw [hb] at ex; cases ex
  | some b =>
    rw [hb] at ex; cases ex
    exact ⟨b, bool_of rv hb, gv_here S1 (.bl _) g2⟩
theorem wk_cmp {a b : E} {op : CmpOp} : ∀ σ H Q, tE C cx W (.cmp op a b) σ H Q → tOp (rCm C.K op) (tE C cx W a) (tE C cx W b) σ H Q := fun σ H Q ⟨th, r, m, S, rs, h⟩ => by
  unfold evE at h
  refine stepE S rs h fun th1 v H1 m1 d S1 rs1 rv p kp _ g => ?_
  refine stepE S1 rs1 g fun th2 w H2 m2 e S2 rs2 rw2 p2 kp2 _ g2 => ?_
  obtain ⟨x, ex, g3⟩ := gd_of g2
  cases hb : cmpV op d e m2 with
  | none => rw [hb] at ex; cases ex
  | some b =>
    rw [hb] at ex; cases ex
    exact cmpV_rule S2 (rv.mono p2 kp2) rw2 op hb (gv_here S2 (.bl _) g3)
theorem wk_cmp2 {a b c : E} {op op2 : CmpOp} : ∀ σ H Q, tE C cx W (.cmp2 op op2 a b c) σ H Q → tChain (rCm C.K op) (rCm C.K op2) (tE C cx W a) (tE C cx W b) (tE C cx W c) σ H Q := fun σ H Q ⟨th, r, m, S, rs, h⟩ => by
  unfold evE at h
  refine stepE S rs h fun th1 v H1 m1 d S1 rs1 rv p kp _ g => ?_
  refine stepE S1 rs1 g fun th2 w H2 m2 e S2 rs2 rw2 p2 kp2 _ g2 => ?_
  cases hb : cmpV op d e m2 with
  | none => rw [hb] at g2; exact g2.elim
  | some b =>
    rw [hb] at g2
    refine cmpV_rule S2 (rv.mono p2 kp2) rw2 op hb ⟨b, rfl, ?_⟩
    cases b with
    | false => exact gv_here S2 (.bl _) g2
    | true =>
      simp only [if_true] at g2 ⊢
      refine stepE S2 rs2 g2 fun th3 z H3 m3 f S3 rs3 rz p3 kp3 _ g3 => ?_
      obtain ⟨x, ex, g4⟩ := gd_of g3
      cases hb2 : cmpV op2 e f m3 with
      | none => rw [hb2] at ex; cases ex
      | some b2 =>
        rw [hb2] at ex; cases ex
        exact cmpV_rule S3 (rw2.mono p3 kp3) rz op2 hb2 (gv_here S3 (.bl _) g4)
def tOpt (C : Ct) (cx : HR.Cx) (W : WX) (es : List E) : TO := fun σ H Q => ∃ th r m, Sim C th H m ∧ RS C th H σ r ∧
  Gd C th H ((evL cx es r m).bind fun ds m1 => R.of m1 (optI ds)) (fun _ _ (b : Option Int) a => b = a) (fun _ b H' _ => Q b H') (fun cl d H' => W cl d σ H')
theorem po_opt0 : PO X none (tOpt C cx W []) := ⟨fun pins s σ H Q I ⟨th, r, m, S, rs, g⟩ => by
  have g2 : Gd C th H (.ok none m) (fun _ _ (b : Option Int) a => b = a) (fun _ b H' _ => Q b H') (fun cl d H' => W cl d σ H') := by
    simp only [evL, R.bind_ok] at g
    exact g
  exact po_none.run pins s σ H Q I (Gd.here S rfl g2)⟩
theorem po_opt1 {e : Expr} {a : E} (h : PE X e (tE C cx W a)) : PO X (some e) (tOpt C cx W [a]) := (po_some h).wk fun σ H Q ⟨th, r, m, S, rs, g⟩ => by
  rw [evL_one] at g
  refine stepE S rs g fun th1 v H1 m1 d S1 rs1 rv p kp _ g => ?_
  obtain ⟨o, eo, g2⟩ := gd_of g
  cases rv with
  | int i =>
    cases eo
    exact ⟨i, rfl, Gd.here S1 rfl g2⟩
  | _ => cases eo
theorem wk_slc {a : E} {lo hi : List E} : ∀ σ H Q, tE C cx W (.slc a lo hi) σ H Q → tSl (rSlU C.K) (tE C cx W a) (tOpt C cx W lo) (tOpt C cx W hi) σ H Q := fun σ H Q ⟨th, r, m, S, rs, h⟩ => by
  rw [evE] at h
  refine stepE S rs h fun th1 v H1 m1 d S1 rs1 rv p kp _ g => ?_
  rw [← R.bind_assoc] at g
  refine ⟨th1, r, m1, S1, rs1, (Gd.bind (Rel := fun _ _ (b : Option Int) a => b = a) g).imp ?_⟩
  rintro th2 l H2 m2 ⟨_, e2, p2, k2, S2, rfl, g2⟩
  rw [← R.bind_assoc] at g2
  refine ⟨th2, r, m2, S2, rs1.mono p2 k2, (Gd.bind (Rel := fun _ _ (b : Option Int) a => b = a) g2).imp ?_⟩
  rintro th3 l2 H3 m3 ⟨_, e3, p3, k3, S3, rfl, g3⟩
  exact slcV_rule S3 ((rv.mono p2 k2).mono p3 k3) g3
/-! ### list(zip(x, y)) -/
theorem ev_lz {a b : E} {r : Sl} {m : Mem} : evE cx (.lz a b) r m = (evL cx [a, b] r m).bind fun ds m1 => match ds with | [x, y] => lzV x y m1 | _ => .bad := by
  rw [evE]
  simp only [evL]
  cases evE cx a r m with
  | ok x m1 =>
    simp only [R.bind_ok]
    cases evE cx b r m1 <;> rfl
  | exn _ _ _ => rfl
  | bad => rfl
theorem pa_two (G : Good C ck cx k sc W X) {a b : E} {u v : Expr} (ha : PE X u (tE C cx W a)) (hb : PE X v (tE C cx W b)) (hu : noStar u = true) (hv : noStar v = true) : PA X [u, v] (tL C cx W [a, b]) := by
  have p0 : PA X [] (tL C cx W []) := pa_nil.wk fun σ H Q q => tL_nil q
  have p1 : PA X [v] (tL C cx W [b]) := (pa_cons hb p0 (star_of hv _ _)).wk fun σ H Q ⟨th, r, m, S, rs, g⟩ => by
    rw [evL] at g
    refine stepE S rs g fun th1 v H1 m1 d S1 rs1 rv p kp _ g => stepL S1 rs1 g fun th2 vs H2 m2 ds S2 rs2 rvs p2 kp2 g2 => ?_
    exact Gd.here S2 (.cons (rv.mono p2 kp2) rvs) g2
  exact (pa_cons ha p1 (star_of hu _ _)).wk fun σ H Q ⟨th, r, m, S, rs, g⟩ => by
    rw [evL] at g
    refine stepE S rs g fun th1 v H1 m1 d S1 rs1 rv p kp _ g => stepL S1 rs1 g fun th2 vs H2 m2 ds S2 rs2 rvs p2 kp2 g2 => ?_
    exact Gd.here S2 (.cons (rv.mono p2 kp2) rvs) g2
theorem rvs_zip {th : List Addr} {H : Hp} : ∀ {xs ys : List V} {ds es : List D} {Ts : List Addr}, RVs C.K th H xs ds → RVs C.K th H ys es → Ts.length = min xs.length ys.length →
    (∀ (j : Nat) (T : Addr), Ts[j]? = some T → ∃ x y, xs[j]? = some x ∧ ys[j]? = some y ∧ H T = some (.tup [x, y])) → RVs C.K th H (Ts.map V.ref) (List.zipWith (fun a b => .tup [a, b]) ds es)
  | _, _, _, _, [], .nil, _, _, _ => .nil
  | _, _, _, _, _ :: _, .nil, _, hl, _ => by simp at hl
  | _, _, _, _, [], .cons _ _, .nil, _, _ => .nil
  | _, _, _, _, _ :: _, .cons _ _, .nil, hl, _ => by simp at hl
  | _, _, _, _, [], .cons _ _, .cons _ _, hl, _ => by simp at hl
  | _, _, _, _, T :: Ts, .cons a ra, .cons b rb, hl, h => by
    obtain ⟨x, y, ex, ey, et⟩ := h 0 T rfl
    simp at ex ey
    subst ex ey
    refine .cons (.tup et (.cons a (.cons b .nil))) (rvs_zip ra rb (by simp at hl; omega) fun j T hj => ?_)
    obtain ⟨x, y, ex, ey, et⟩ := h (j + 1) T (by simpa using hj)
    exact ⟨x, y, by simpa using ex, by simpa using ey, et⟩
theorem tup_seq {th : List Addr} {H : Hp} {v : V} {ds : List D} (r : RV C.K th H v (.tup ds)) : ∃ a xs, v = .ref a ∧ SqT C.K H a xs ∧ RVs C.K th H xs ds := by
  cases r with
  | tup h rr => exact ⟨_, _, rfl, .inl (.inl h), rr⟩
theorem snd_lz (G : Good C ck cx k sc W X) {a b : E} {u v : Expr} {p q p2 q2 : Pos} (ha : PE X u (tE C cx W a)) (hb : PE X v (tE C cx W b)) (hl : isGl sc "list" = true) (hz : isGl sc "zip" = true) (hu : noStar u = true) (hv : noStar v = true) :
    PE X (.Call (.Name "list" p) [.Call (.Name "zip" p2) [u, v] [] q2] [] q) (tE C cx W (.lz a b)) := by
  refine (pe_lz (G.gl hl) (G.gx.blt "list" (by decide)) (G.gl hz) (G.gx.blt "zip" (by decide)) (pa_two G ha hb hu hv) G.calm (star_of hu _ _) (fun pos => star_any pos _ (es := [v]) (by simp [hv]))).wk fun σ H Q ⟨th, r, m, S, rs, h⟩ => ?_
  rw [ev_lz] at h
  rw [G.gx.hK]
  refine stepL S rs h fun th1 vs H1 m1 ds S1 rs1 rv p kp g => ?_
  cases rv with
  | nil => exact g.elim
  | cons r1 rt =>
    cases rt with
    | nil => exact g.elim
    | cons r2 rt2 =>
      cases rt2 with
      | cons _ _ => exact g.elim
      | nil =>
        simp only [lzV] at g
        split at g
        · rename_i x y xs ys
          split at g
          · rename_i hn
            obtain ⟨a1, us, rfl, q1, rr1⟩ := tup_seq r1
            obtain ⟨a2, ws, rfl, q2, rr2⟩ := tup_seq r2
            refine ⟨a1, a2, us, ws, rfl, q1, q2, by rw [rr1.length]; exact hn, fun H2 L Ts hL0 hk hL hlen hT => ?_⟩
            have kk : Keep C.K H1 H2 := keep_same hk
            have hf := S1.fresh hL0
            have hidx : (th1 ++ [L])[m1.length]? = some L := by rw [← S1.len, List.getElem?_append_right (Nat.le_refl _)]; simp
            have rl := rvs_zip (rr1.mono (Pre.snoc th1 L) kk) (rr2.mono (Pre.snoc th1 L) kk) hlen hT
            refine g (th1 ++ [L]) H2 (.ref L) (Pre.snoc _ _) kk ?_ (.ref hidx)
            refine ⟨by simp [S1.len], ?_, fun j o' e => ?_⟩
            · rw [List.nodup_append]
              exact ⟨S1.nd, by simp, fun a ha b hb => by simp at hb; subst hb; exact fun z => hf (z ▸ ha)⟩
            · by_cases hj : j < m1.length
              · rw [List.getElem?_append_left hj] at e
                obtain ⟨a, h1, h2⟩ := S1.at_ j o' e
                obtain ⟨w, hw⟩ := S1.tracked h1
                exact ⟨a, Pre.snoc _ _ _ _ h1, h2.mono (Pre.snoc _ _) kk (by rw [hw]; exact hk _ _ hw)⟩
              · have hj2 : j = m1.length := by
                  have := (List.getElem?_eq_some_iff.mp e).1
                  simp at this; omega
                subst hj2
                rw [List.getElem?_append_right (Nat.le_refl _)] at e
                simp at e
                subst e
                exact ⟨L, hidx, _, hL, rl⟩
          · exact g.elim
        · exact g.elim
/-! ### the main theorem -/
theorem lm_of {o o2 : CmpOp} {y z : Expr} (h : noSet z = true) : lastMarks [o, o2] [y, z] = false := by
  show lastMarks [o2] [z] = false
  exact mark_of h o2
section
variable {own : List Nat} {ik : IK} {its : List E} {p : P} {cond : List E} {elt ke ve : E} {tk : Bool} {x kx vx tg iter : Expr} {ifs : List Expr} {sc2 : Scope} {pos : Pos} {z : Nat}
/-- what the checker says of a comprehension's frame -/
structure CmOk (ck : Ck) (sc sc2 : Scope) (own : List Nat) (ik : IK) (its : List E) (p : P) (cond : List E) (tg iter : Expr) (ifs : List Expr) : Prop where
  bk : blkC ck.N sc sc2 (ownN ck own) = true
  pt : chkP ck sc2 p tg = true
  ow : ∀ i ∈ slotsP p, i ∈ own
  it : ∃ xs, itArgs sc ik tg iter = some xs ∧ chkL ck sc its xs = true
  pa : ik = .items → isPath its = true
  ln : ifs.length ≤ 1
  cl : cond.length = ifs.length
theorem CmOk.blk (c : CmOk ck sc sc2 own ik its p cond tg iter ifs) (G : Good C ck cx k sc W X) : BlkOk X.N X.env.scope sc2 (ownN ck own) := by
  rw [G.hN, G.hS]
  exact blkOk_by c.bk
theorem CmOk.pg (c : CmOk ck sc sc2 own ik its p cond tg iter ifs) (G : Good C ck cx k sc W X) (s : Shared) (H : Hp) (Ca : Addr) (cl : List (Str × Addr)) (fp : List Addr) : PG (X.blk s H sc2 (compEnvC sc2 cl Ca X.env) fp) tg (gP X.K p) :=
  pg_pat (X := X.blk s H sc2 (compEnvC sc2 cl Ca X.env) fp) G.hN G.nd G.calm own_blk p tg c.pt
theorem CmOk.set (c : CmOk ck sc sc2 own ik its p cond tg iter ifs) (x : Value) : foldedSetIterable iter X.env x = pure x := by
  obtain ⟨xs, h, _⟩ := c.it
  exact set_of (itArgs_set h) X.env x
/-- over the pairs: its parts -/
theorem CmOk.pairs (c : CmOk ck sc sc2 own ik its p cond tg iter ifs) (hik : ik = .items) (G : Good C ck cx k sc W X) (hs : ∀ e x, (e, x) ∈ its.zip (match vCallA iter with | some (o, _, _, _, _) => [o] | none => []) → PE X x (tE C cx W e)) : ∃ e, its = [e] ∧ PI X tg iter (iPairs (tE C cx W e)) := by
  subst hik
  obtain ⟨xs, h, hc⟩ := c.it
  simp only [itArgs] at h
  split at h
  · rename_i o m pp es q ev
    split at h
    · rename_i hh
      cases h
      rw [ev] at hs
      have := vCallA_eq ev
      subst this
      simp only [Bool.and_eq_true, decide_eq_true_eq] at hh
      obtain ⟨⟨⟨⟨rfl, hes⟩, htg⟩, hat⟩, hln⟩ := hh
      have hes : es = [] := List.isEmpty_iff.mp hes
      subst hes
      have hl := chkL_len hc
      match its, hl with
      | [e], _ =>
        refine ⟨e, rfl, ?_⟩
        cases tg with
        | Tuple elts kk tpos => exact pi_pairs (hs e o (by simp)) (base_of hat _ _ _) hln
        | _ => cases htg
    · cases h
  · cases h
end
theorem chkCm {own : List Nat} {ik : IK} {its : List E} {p : P} {cond : List E} {tg iter : Expr} {ifs : List Expr} {sc2 : Scope} {rest : Bool}
    (h1 : blkC ck.N sc sc2 (ownN ck own) = true) (h2 : chkP ck sc2 p tg = true) (h3 : (slotsP p).all (fun i => decide (i ∈ own)) = true) (h4 : (match itArgs sc ik tg iter with
          | some xs => chkL ck sc its xs
          | none => false) = true) (h5 : (decide (ik ≠ .items) || isPath its) = true) (h6 : ifs.length ≤ 1) (h7 : cond.length = ifs.length) : CmOk ck sc sc2 own ik its p cond tg iter ifs := by
  refine ⟨h1, h2, fun i hi => ?_, ?_, fun hk => ?_, h6, h7⟩
  · have := List.all_eq_true.mp h3 i hi
    exact of_decide_eq_true this
  · split at h4
    · rename_i xs e
      exact ⟨xs, e, h4⟩
    · cases h4
  · subst hk
    simpa using h5
end
end HR

set_option linter.all false
set_option maxRecDepth 100000
set_option maxHeartbeats 4000000
/-! HR, part 15: the theorem about expressions. -/
namespace HR
open PySem L2 PyProof.Rows
variable {C : Ct} {ck : Ck} {cx : HR.Cx} {k : Nat}
def plainT : Expr → Bool
  | .UnaryOp .Not _ _ => false
  | .BoolOp _ _ _ => false
  | .IfExp _ _ _ _ => false
  | .Compare _ _ _ _ => false
  | _ => true
theorem plainT_is {e : Expr} (h : plainT e = true) (env : Env) (whole : Sem Value) : isTrue e env whole = (do let v ← whole; standAt e.pos; holding [v] (truthy v)) := by
  cases e with
  | UnaryOp o x p => cases o <;> first | rfl | cases h
  | _ => first | rfl | cases h
def plainA : E → Bool
  | .not _ => false
  | .and _ _ => false
  | .or _ _ => false
  | .cmp _ _ _ => false
  | .cmp2 _ _ _ _ _ => false
  | .ite _ _ _ => false
  | _ => true
theorem chk_plain {sc : Scope} {a : E} {e : Expr} (ha : plainA a = true) (h : chkE ck sc a e = true) : plainT e = true := by
  cases e with
  | UnaryOp o x p =>
    cases o with
    | Not => cases a <;> first | (cases ha; done) | simp [chkE, vName, vConst, vBin, vUn, vTup, vLst, vSub, vSlc, vAttr, vCallN, vCallA, vLc, vDc, isEmptyDict] at h
    | _ => rfl
  | BoolOp _ _ _ => cases a <;> first | (cases ha; done) | simp [chkE, vName, vConst, vBin, vUn, vTup, vLst, vSub, vSlc, vAttr, vCallN, vCallA, vLc, vDc, isEmptyDict] at h
  | IfExp _ _ _ _ => cases a <;> first | (cases ha; done) | simp [chkE, vName, vConst, vBin, vUn, vTup, vLst, vSub, vSlc, vAttr, vCallN, vCallA, vLc, vDc, isEmptyDict] at h
  | Compare _ _ _ _ => cases a <;> first | (cases ha; done) | simp [chkE, vName, vConst, vBin, vUn, vTup, vLst, vSub, vSlc, vAttr, vCallN, vCallA, vLc, vDc, isEmptyDict] at h
  | _ => rfl
theorem pt_plain {X : L2.Cx} {sc : Scope} {W : WX} {a : E} {e : Expr} (ha : plainA a = true) (h : chkE ck sc a e = true) (q : PE X e (tE C cx W a)) : PT X e (tT C cx W a) ∧ ((∃ o es p, e = .BoolOp o es p) → PW X e (tT C cx W a)) := by
  have hp := chk_plain ha h
  refine ⟨(pt_val q (plainT_is hp X.env)).wk tT_tB, fun ⟨_, _, _, z⟩ => by subst z; cases hp⟩
mutual
theorem sndE : ∀ (a : E) {X : L2.Cx} {sc : Scope} {W : WX} {e : Expr}, Good C ck cx k sc W X → chkE ck sc a e = true → PE X e (tE C cx W a)
  | .var i, X, sc, W, e, G, h => by
    unfold chkE at h
    split at h
    · rename_i x ev
      obtain ⟨p, rfl⟩ := vName_eq ev
      simp only [Bool.and_eq_true, decide_eq_true_eq] at h
      obtain ⟨h1, h2, h3⟩ := plain_of h.2
      refine (pe_var (by rw [G.hN]; exact h.1.1) (by rw [G.hS]; exact loc_of h.1.2) h1 h2).wk fun σ H Q ⟨th, r, m, S, rs, g⟩ => ?_
      unfold evE at g
      obtain ⟨d, ed, g2⟩ := gd_of g
      obtain ⟨v, hv, rv⟩ := rs.at_ i d (by
        cases hr : r[i]? with
        | none => rw [hr] at ed; cases ed
        | some o => rw [hr] at ed; simp at ed; rw [ed])
      exact ⟨v, hv, gv_here S rv g2⟩
    · cases h
  | .int i, X, sc, W, e, G, h => by
    unfold chkE at h
    split at h
    · rename_i j ev
      obtain ⟨_, p, rfl⟩ := vConst_eq ev
      have := of_decide_eq_true h
      subst this
      exact pe_int.wk fun σ H Q ⟨th, r, m, S, rs, g⟩ => by unfold evE at g; exact gv_here S (.int i) g
    · cases h
  | .bl b, X, sc, W, e, G, h => by
    unfold chkE at h
    split at h
    · rename_i j ev
      obtain ⟨_, p, rfl⟩ := vConst_eq ev
      have := of_decide_eq_true h
      subst this
      exact pe_bl.wk fun σ H Q ⟨th, r, m, S, rs, g⟩ => by unfold evE at g; exact gv_here S (.bl b) g
    · cases h
  | .non, X, sc, W, e, G, h => by
    unfold chkE at h
    split at h
    · rename_i ev
      obtain ⟨_, p, rfl⟩ := vConst_eq ev
      exact pe_non.wk fun σ H Q ⟨th, r, m, S, rs, g⟩ => by unfold evE at g; exact gv_here S .non g
    · cases h
  | .str s, X, sc, W, e, G, h => by
    unfold chkE at h
    split at h
    · rename_i j ev
      obtain ⟨_, p, rfl⟩ := vConst_eq ev
      have := of_decide_eq_true h
      subst this
      exact pe_str.wk fun σ H Q ⟨th, r, m, S, rs, g⟩ => by unfold evE at g; exact gv_here S (.str s) g
    · cases h
  | .gint x i, X, sc, W, e, G, h => by
    unfold chkE at h
    split at h
    · rename_i y ev
      obtain ⟨p, rfl⟩ := vName_eq ev
      simp only [Bool.and_eq_true, decide_eq_true_eq] at h
      obtain ⟨⟨⟨rfl, hg⟩, hp⟩, hm⟩ := h
      obtain ⟨t, ht⟩ := G.gx.con x i hm
      exact (pe_glob (v := .int i) (G.gl hg) ht ⟨t, rfl⟩ (plain_of hp).1).wk fun σ H Q ⟨th, r, m, S, rs, g⟩ => by unfold evE at g; exact gv_here S (.int i) g
    · cases h
  | .bin op a b, X, sc, W, e, G, h => by
    unfold chkE at h
    split at h
    · rename_i x o y ev
      obtain ⟨p, rfl⟩ := vBin_eq ev
      simp only [Bool.and_eq_true, decide_eq_true_eq] at h
      obtain ⟨⟨rfl, ha⟩, hb⟩ := h
      refine (pe_op (op_rB op) (sndE a G ha) (sndE b G hb)).wk fun σ H Q ⟨th, r, m, S, rs, g⟩ => ?_
      unfold evE at g
      rw [G.gx.hK]
      exact stepE S rs g fun th1 v H1 m1 d S1 rs1 rv p kp _ g => stepE S1 rs1 g fun th2 w H2 m2 e S2 rs2 rw2 p2 kp2 _ g2 => binV_rule S2 (rv.mono p2 kp2) rw2 op g2
    · cases h
  | .neg a, X, sc, W, e, G, h => by
    unfold chkE at h
    split at h
    · rename_i o x ev
      obtain ⟨p, rfl⟩ := vUn_eq ev
      simp only [Bool.and_eq_true, decide_eq_true_eq] at h
      obtain ⟨rfl, ha⟩ := h
      refine (pe_un un_neg (sndE a G ha)).wk fun σ H Q ⟨th, r, m, S, rs, g⟩ => ?_
      unfold evE at g
      refine stepE S rs g fun th1 v H1 m1 d S1 rs1 rv p kp _ g => ?_
      obtain ⟨x, ex, g2⟩ := gd_of g
      cases rv with
      | int i => cases ex; exact ⟨i, rfl, gv_here S1 (.int _) g2⟩
      | _ => cases ex
    · cases h
  | .not a, X, sc, W, e, G, h => by
    unfold chkE at h
    split at h
    · rename_i o x ev
      obtain ⟨p, rfl⟩ := vUn_eq ev
      simp only [Bool.and_eq_true, decide_eq_true_eq] at h
      obtain ⟨rfl, ha⟩ := h
      exact (pe_not (sndE a G ha)).wk wk_notV
    · cases h
  | .cmp op a b, X, sc, W, e, G, h => by
    unfold chkE at h
    split at h
    · rename_i x o y ev
      obtain ⟨p, rfl⟩ := vCmp_eq ev
      simp only [Bool.and_eq_true, decide_eq_true_eq] at h
      obtain ⟨⟨⟨rfl, hs⟩, ha⟩, hb⟩ := h
      have q := pe_cmpR (op_rCm G.room op) (sndE a G ha) (sndE b G hb) (mark_of hs op) (pos := p)
      rw [G.gx.hK] at q
      exact q.wk wk_cmp
    · cases h
  | .cmp2 op op2 a b c, X, sc, W, e, G, h => by
    unfold chkE at h
    split at h
    · rename_i x o o2 y z ev
      obtain ⟨p, rfl⟩ := vCmp_eq ev
      simp only [Bool.and_eq_true, decide_eq_true_eq] at h
      obtain ⟨⟨⟨⟨⟨rfl, rfl⟩, hs⟩, ha⟩, hb⟩, hc⟩ := h
      have q := pe_chain (op_rCm G.room op) (op_rCm G.room op2) (sndE a G ha) (sndE b G hb) (sndE c G hc) (lm_of hs) (pos := p)
      rw [G.gx.hK] at q
      exact q.wk wk_cmp2
    · cases h
  | .and a b, X, sc, W, e, G, h => by
    unfold chkE at h
    split at h
    · rename_i o x y rest p ev
      have := vBool_eq ev
      subst this
      simp only [Bool.and_eq_true, decide_eq_true_eq] at h
      obtain ⟨⟨rfl, ha⟩, hb⟩ := h
      refine (pe_and (sndE a G ha) ?_).wk wk_andV
      cases rest with
      | nil => exact pe_one (sndE b G hb)
      | cons z rest => exact sndE b G hb
    · cases h
  | .or a b, X, sc, W, e, G, h => by
    unfold chkE at h
    split at h
    · rename_i o x y rest p ev
      have := vBool_eq ev
      subst this
      simp only [Bool.and_eq_true, decide_eq_true_eq] at h
      obtain ⟨⟨rfl, ha⟩, hb⟩ := h
      refine (pe_or (sndE a G ha) ?_).wk wk_orV
      cases rest with
      | nil => exact pe_one (sndE b G hb)
      | cons z rest => exact sndE b G hb
    · cases h
  | .ite c a b, X, sc, W, e, G, h => by
    unfold chkE at h
    split at h
    · rename_i z x y ev
      obtain ⟨p, rfl⟩ := vIf_eq ev
      simp only [Bool.and_eq_true] at h
      exact (pe_ifExp (sndT c G h.1.1).1 (sndE a G h.1.2) (sndE b G h.2)).wk wk_ite
    · cases h
  | .tup es, X, sc, W, e, G, h => by
    unfold chkE at h
    split at h
    · rename_i xs ev
      obtain ⟨j, p, rfl⟩ := vTup_eq ev
      refine (pe_tup (sndL es G h).1).wk fun σ H Q ⟨th, r, m, S, rs, g⟩ => ?_
      unfold evE at g
      refine stepL S rs g fun th1 vs H1 m1 ds S1 rs1 rv p kp g => ?_
      split at g
      · rename_i hz
        exact ⟨big_line (by rw [rv.length]; exact hz), fun q hq => gd_tup S1 rv g hq⟩
      · exact g.elim
    · cases h
  | .lst es, X, sc, W, e, G, h => by
    unfold chkE at h
    split at h
    · rename_i xs ev
      obtain ⟨p, rfl⟩ := vLst_eq ev
      refine (pe_lst (sndL es G h).1).wk fun σ H Q ⟨th, r, m, S, rs, g⟩ => ?_
      unfold evE at g
      refine stepL S rs g fun th1 vs H1 m1 ds S1 rs1 rv p kp g => ?_
      split at g
      · rename_i hz
        exact ⟨big_line (by rw [rv.length]; exact hz), fun q hq => gd_newL S1 rv g hq⟩
      · exact g.elim
    · cases h
  | .idx a i, X, sc, W, e, G, h => by
    unfold chkE at h
    split at h
    · rename_i x y ev
      obtain ⟨p, rfl⟩ := vSub_eq ev
      simp only [Bool.and_eq_true] at h
      refine (pe_ix (ix_rIxA G.room) (sndE a G h.1.2) (sndE i G h.2) (sl_of h.1.1)).wk fun σ H Q ⟨th, r, m, S, rs, g⟩ => ?_
      unfold evE at g
      rw [G.gx.hK]
      refine stepE S rs g fun th1 v H1 m1 d S1 rs1 rv p kp _ g => stepE S1 rs1 g fun th2 w H2 m2 e S2 rs2 rw2 p2 kp2 _ g2 => ?_
      obtain ⟨x, ex, g3⟩ := gd_of g2
      exact idxV_rule S2 (rv.mono p2 kp2) rw2 ex fun z rz => gv_here S2 rz g3
    · cases h
  | .slc a lo hi, X, sc, W, e, G, h => by
    unfold chkE at h
    split at h
    · rename_i x l hh ev
      obtain ⟨p2, p, rfl⟩ := vSlc_eq ev
      simp only [Bool.and_eq_true] at h
      have q := pe_slice (p2 := p2) (pos := p) sl_rSlU (sndE a G h.1.1) (sndO lo G h.1.2) (sndO hi G h.2)
      rw [G.gx.hK] at q
      exact q.wk wk_slc
    · cases h
  | .fld a f, X, sc, W, e, G, h => by
    unfold chkE at h
    split at h
    · rename_i x n ev
      obtain ⟨p, rfl⟩ := vAttr_eq ev
      simp only [Bool.and_eq_true, decide_eq_true_eq] at h
      obtain ⟨⟨hf, hat⟩, ha⟩ := h
      rw [G.gx.tb] at hf
      refine (pe_fld (sndE a G ha) (base_of hat _ _ _)).wk fun σ H Q ⟨th, r, m, S, rs, g⟩ => ?_
      unfold evE at g
      refine stepE S rs g fun th1 v H1 m1 d S1 rs1 rv p kp _ g => ?_
      obtain ⟨x, ex, g2⟩ := gd_of g
      obtain ⟨pa, c, nm, dx, fs, z, rfl, e1, e2, e3, rz⟩ := fldV_rule G.gx.fnd S1 hf rv ex
      exact ⟨pa, C.cl c, dx, fs, z, rfl, e1, (G.gx.cls c nm e2).2, G.gx.nat c nm f n e2 hf, e3, gv_here S1 rz g2⟩
    · cases h
  | .call f es, X, sc, W, e, G, h => by
    unfold chkE at h
    split at h
    · rename_i x xs ev
      obtain ⟨p, q, rfl⟩ := vCallN_eq ev
      simp only [Bool.and_eq_true, decide_eq_true_eq] at h
      obtain ⟨⟨⟨h1, h2⟩, h3⟩, h4⟩ := h
      exact snd_call G (sndL es G h4).1 (by rw [← G.gx.tb]; exact h1) h2 h3 (chkL_star h4) (chkL_len h4)
    · cases h
  | .meth n o es, X, sc, W, e, G, h => by
    unfold chkE at h
    split at h
    · rename_i x m p xs q ev
      have := vCallA_eq ev
      subst this
      simp only [Bool.and_eq_true, decide_eq_true_eq] at h
      obtain ⟨⟨⟨⟨⟨⟨h1, h2⟩, h3⟩, h4⟩, h5⟩, h6⟩, h7⟩ := h
      exact snd_meth G (sndE o G h6) (sndL es G h7).1 (by rw [← G.gx.tb]; exact h1) (by rw [← G.gx.tb]; exact h2) h3 (chkL_star h7) h5 h4 (chkL_len h7)
    · cases h
  | .make c es, X, sc, W, e, G, h => by
    unfold chkE at h
    split at h
    · rename_i x xs ev
      obtain ⟨p, q, rfl⟩ := vCallN_eq ev
      simp only [Bool.and_eq_true, decide_eq_true_eq] at h
      obtain ⟨⟨⟨h1, h2⟩, h3⟩, h4⟩ := h
      exact snd_make G (sndL es G h4).1 (by rw [← G.gx.tb]; exact h1) h2 h3 (chkL_star h4) (chkL_len h4)
    · cases h
  | .blt b es, X, sc, W, e, G, h => by
    unfold chkE at h
    split at h
    · rename_i x xs ev
      obtain ⟨p, q, rfl⟩ := vCallN_eq ev
      simp only [Bool.and_eq_true, decide_eq_true_eq, Bool.not_eq_true'] at h
      obtain ⟨⟨⟨⟨rfl, h2⟩, h3⟩, h4⟩, h5⟩ := h
      exact snd_blt G (sndL es G h5).1 h3 h2 h4 (chkL_star h5)
    · cases h
  | .bm b o es, X, sc, W, e, G, h => by
    unfold chkE at h
    split at h
    · rename_i x m p xs q ev
      have := vCallA_eq ev
      subst this
      simp only [Bool.and_eq_true, decide_eq_true_eq] at h
      obtain ⟨⟨⟨⟨⟨⟨rfl, h2⟩, h3⟩, h4⟩, h5⟩, h6⟩, h7⟩ := h
      exact snd_bm G (sndE o G h6) (sndL es G h7).1 (fun e he => (sndL es G h7).2 e.1 e.2 he) h3 (chkL_star h7) h5 h4 (chkL_len h7) h2
    · cases h
  | .isi a t, X, sc, W, e, G, h => by
    unfold chkE at h
    split at h
    · rename_i x y z p2 ev
      obtain ⟨p, q, rfl⟩ := vCallN_eq ev
      simp only [Bool.and_eq_true, decide_eq_true_eq] at h
      obtain ⟨⟨⟨⟨⟨rfl, h2⟩, rfl⟩, h4⟩, h5⟩, h6⟩ := h
      exact snd_isi G (sndE a G h6) h2 h4 h5
    · cases h
  | .lc own ik its p cond elt, X, sc, W, e, G, h => by
    unfold chkE at h
    split at h
    · rename_i x tg iter ifs z sc2 ev
      obtain ⟨pos, rfl⟩ := vLc_eq ev
      simp only [Bool.and_eq_true, decide_eq_true_eq] at h
      obtain ⟨⟨⟨⟨⟨⟨⟨⟨rfl, h1⟩, h2⟩, h3⟩, h4⟩, h5⟩, h6⟩, h7⟩, h8⟩ := h
      have c := chkCm (rest := true) h1 h2 (by simpa using h3) h4 h5 h6 (chkL_len h7)
      have ht : ∀ (s : Shared) (H : Hp) (Ca : Addr) (cl : List (Str × Addr)) (fp : List Addr), PTs (X.blk s H sc2 (compEnvC sc2 cl Ca X.env) fp) ifs (tTs C cx cond) :=
        fun s H Ca cl fp => pts_cond c.cl c.ln fun e x hx => sndLT cond (G.blk s H Ca cl fp) h7 e x hx
      have he : ∀ (s : Shared) (H : Hp) (Ca : Addr) (cl : List (Str × Addr)) (fp : List Addr), PE (X.blk s H sc2 (compEnvC sc2 cl Ca X.env) fp) x (tE C cx WF elt) := fun s H Ca cl fp => sndE elt (G.blk s H Ca cl fp) h8
      obtain ⟨xs, i1, i2⟩ := c.it
      by_cases hik : ik = .items
      · obtain ⟨e', rfl, hpi⟩ := c.pairs hik G fun e y hy => (sndL its G i2).2 e y (by
          subst hik
          simp only [itArgs] at i1
          split at i1
          · rename_i o m pp es q ev2
            rw [ev2] at hy
            split at i1
            · cases i1; exact hy
            · cases i1
          · cases i1)
        subst hik
        have q := pe_lock (pe_lc (pos := pos) G.calm G.nd hpi (c.blk G) (c.pg G) ht he c.set)
        rw [ownN_map] at q
        exact q.wk (lc_pairs G c.ow (c.pa rfl) rfl)
      · have q := pe_lc (pos := pos) G.calm G.nd (sndI G i1 hik i2 (fun e x hx => (sndL its G i2).2 e x hx) (sndL its G i2).1) (c.blk G) (c.pg G) ht he c.set
        rw [ownN_map] at q
        exact q.wk (lc_wk G c.ow hik)
    · cases h
  | .dc tk own ik its p cond ke ve, X, sc, W, e, G, h => by
    unfold chkE at h
    split at h
    · rename_i x y tg iter ifs z sc2 ev
      obtain ⟨pos, rfl⟩ := vDc_eq ev
      simp only [Bool.and_eq_true, decide_eq_true_eq] at h
      obtain ⟨⟨⟨⟨⟨⟨⟨⟨⟨rfl, h1⟩, h2⟩, h3⟩, h4⟩, h5⟩, h6⟩, h7⟩, h8⟩, h9⟩ := h
      have c := chkCm (rest := true) h1 h2 (by simpa using h3) h4 h5 h6 (chkL_len h7)
      have ht : ∀ (s : Shared) (H : Hp) (Ca : Addr) (cl : List (Str × Addr)) (fp : List Addr), PTs (X.blk s H sc2 (compEnvC sc2 cl Ca X.env) fp) ifs (tTs C cx cond) :=
        fun s H Ca cl fp => pts_cond c.cl c.ln fun e x hx => sndLT cond (G.blk s H Ca cl fp) h7 e x hx
      have hk : ∀ (s : Shared) (H : Hp) (Ca : Addr) (cl : List (Str × Addr)) (fp : List Addr), PE (X.blk s H sc2 (compEnvC sc2 cl Ca X.env) fp) x (tE C cx WF ke) := fun s H Ca cl fp => sndE ke (G.blk s H Ca cl fp) h8
      have hv : ∀ (s : Shared) (H : Hp) (Ca : Addr) (cl : List (Str × Addr)) (fp : List Addr), PE (X.blk s H sc2 (compEnvC sc2 cl Ca X.env) fp) y (tE C cx WF ve) := fun s H Ca cl fp => sndE ve (G.blk s H Ca cl fp) h9
      have hd0 : d0 tk = .dK [] ∨ d0 tk = .dT [] := by cases tk <;> simp [d0]
      have hun : X.A.units < cLine := by have := G.room.units0; exact this
      obtain ⟨xs, i1, i2⟩ := c.it
      by_cases hik : ik = .items
      · obtain ⟨e', rfl, hpi⟩ := c.pairs hik G fun e y hy => (sndL its G i2).2 e y (by
          subst hik
          simp only [itArgs] at i1
          split at i1
          · rename_i o m pp es q ev2
            rw [ev2] at hy
            split at i1
            · cases i1; exact hy
            · cases i1
          · cases i1)
        subst hik
        have q := pe_lock (pe_dx (pos := pos) hd0 hun G.calm G.nd ⟨hpi, c.blk G, c.pg G, ht, hk, hv, c.set⟩)
        rw [ownN_map] at q
        exact q.wk (dc_pairs G c.ow (c.pa rfl) rfl)
      · have q := pe_dx (pos := pos) hd0 hun G.calm G.nd ⟨sndI G i1 hik i2 (fun e x hx => (sndL its G i2).2 e x hx) (sndL its G i2).1, c.blk G, c.pg G, ht, hk, hv, c.set⟩
        rw [ownN_map] at q
        exact q.wk (dc_wk G c.ow hik)
    · cases h
  | .dnew tk, X, sc, W, e, G, h => by
    unfold chkE isEmptyDict at h
    split at h
    · cases tk with
      | true =>
        refine pe_dnewT.wk fun σ H Q ⟨th, r, m, S, rs, g⟩ => ?_
        unfold evE at g
        simp only [if_true] at g
        exact fun q hq => gd_new (o := .dT false []) S g hq ⟨[], upd_same, .nil⟩
      | false =>
        refine pe_dnewK.wk fun σ H Q ⟨th, r, m, S, rs, g⟩ => ?_
        unfold evE at g
        simp only [Bool.false_eq_true, if_false] at g
        exact fun q hq => gd_new (o := .dK false []) S g hq ⟨[], upd_same, .nil⟩
    · cases h
  | .lz a b, X, sc, W, e, G, h => by
    unfold chkE at h
    split at h
    · rename_i x y ev
      obtain ⟨p, q, rfl⟩ := vCallN_eq ev
      split at h
      · rename_i z u v ev2
        obtain ⟨p2, q2, rfl⟩ := vCallN_eq ev2
        simp only [Bool.and_eq_true, decide_eq_true_eq] at h
        obtain ⟨⟨⟨⟨⟨⟨⟨rfl, h1⟩, rfl⟩, h2⟩, h3⟩, h4⟩, h5⟩, h6⟩ := h
        exact snd_lz G (sndE a G h5) (sndE b G h6) h1 h2 h3 h4
      · cases h
    · cases h
termination_by a => (sizeOf a, 0)
theorem sndL : ∀ (es : List E) {X : L2.Cx} {sc : Scope} {W : WX} {xs : List Expr}, Good C ck cx k sc W X → chkL ck sc es xs = true → PA X xs (tL C cx W es) ∧ ∀ e x, (e, x) ∈ es.zip xs → PE X x (tE C cx W e)
  | [], X, sc, W, xs, G, h => by
    cases xs with
    | cons x xs => simp [chkL] at h
    | nil => exact ⟨pa_nil.wk fun σ H Q q => tL_nil q, fun e x hx => by cases hx⟩
  | e :: es, X, sc, W, xs, G, h => by
    cases xs with
    | nil => simp [chkL] at h
    | cons x xs =>
      simp only [chkL, Bool.and_eq_true] at h
      have p1 := sndE e G h.1.2
      have p2 := sndL es G h.2
      refine ⟨(pa_cons p1 p2.1 (star_of h.1.1 _ _)).wk fun σ H Q ⟨th, r, m, S, rs, g⟩ => ?_, fun e' x' hx => ?_⟩
      · unfold evL at g
        refine stepE S rs g fun th1 v H1 m1 d S1 rs1 rv p kp _ g => stepL S1 rs1 g fun th2 vs H2 m2 ds S2 rs2 rvs p2 kp2 g2 => ?_
        exact Gd.here S2 (.cons (rv.mono p2 kp2) rvs) g2
      · rw [List.zip_cons_cons] at hx
        rcases List.mem_cons.mp hx with z | z
        · cases z; exact p1
        · exact p2.2 e' x' z
termination_by es => (sizeOf es, 0)
theorem sndLT : ∀ (es : List E) {X : L2.Cx} {sc : Scope} {W : WX} {xs : List Expr}, Good C ck cx k sc W X → chkL ck sc es xs = true → ∀ e x, (e, x) ∈ es.zip xs → PT X x (tT C cx W e)
  | [], X, sc, W, xs, G, h => by intro e x hx; cases hx
  | e :: es, X, sc, W, xs, G, h => by
    cases xs with
    | nil => intro e x hx; cases hx
    | cons x xs =>
      simp only [chkL, Bool.and_eq_true] at h
      intro e' x' hx
      have p1 := (sndT e G h.1.2).1
      rw [List.zip_cons_cons] at hx
      rcases List.mem_cons.mp hx with z | z
      · cases z; exact p1
      · exact sndLT es G h.2 e' x' z
termination_by es => (sizeOf es, 0)
theorem sndO : ∀ (es : List E) {X : L2.Cx} {sc : Scope} {W : WX} {o : Option Expr}, Good C ck cx k sc W X → chkO ck sc es o = true → PO X o (tOpt C cx W es)
  | [], X, sc, W, o, G, h => by
    cases o with
    | none => exact po_opt0
    | some x => simp [chkO] at h
  | e :: es, X, sc, W, o, G, h => by
    cases es with
    | cons _ _ => simp [chkO] at h
    | nil =>
      cases o with
      | none => simp [chkO] at h
      | some x =>
        simp only [chkO] at h
        exact po_opt1 (sndE e G h)
termination_by es => (sizeOf es, 0)
theorem sndT : ∀ (a : E) {X : L2.Cx} {sc : Scope} {W : WX} {e : Expr}, Good C ck cx k sc W X → chkE ck sc a e = true → PT X e (tT C cx W a) ∧ ((∃ o es p, e = .BoolOp o es p) → PW X e (tT C cx W a))
  | .not a, X, sc, W, e, G, h => by
    have h0 := h
    unfold chkE at h
    split at h
    · rename_i o x ev
      obtain ⟨p, rfl⟩ := vUn_eq ev
      simp only [Bool.and_eq_true, decide_eq_true_eq] at h
      obtain ⟨rfl, ha⟩ := h
      exact ⟨(pt_not (sndT a G ha).1).wk wk_not, fun ⟨_, _, _, z⟩ => by cases z⟩
    · cases h
  | .and a b, X, sc, W, e, G, h => by
    unfold chkE at h
    split at h
    · rename_i o x y rest p ev
      have := vBool_eq ev
      subst this
      simp only [Bool.and_eq_true, decide_eq_true_eq] at h
      obtain ⟨⟨rfl, ha⟩, hb⟩ := h
      have q : PW X (.BoolOp .And (x :: y :: rest) p) (tT C cx W (.and a b)) := by
        refine (pw_and (sndT a G ha).1 ?_).wk wk_and
        cases rest with
        | nil => exact pw_and1 (sndT b G hb).1
        | cons z rest => exact (sndT b G hb).2 ⟨_, _, _, rfl⟩
      exact ⟨q.pt, fun _ => q⟩
    · cases h
  | .or a b, X, sc, W, e, G, h => by
    unfold chkE at h
    split at h
    · rename_i o x y rest p ev
      have := vBool_eq ev
      subst this
      simp only [Bool.and_eq_true, decide_eq_true_eq] at h
      obtain ⟨⟨rfl, ha⟩, hb⟩ := h
      have q : PW X (.BoolOp .Or (x :: y :: rest) p) (tT C cx W (.or a b)) := by
        refine (pw_or (sndT a G ha).1 ?_).wk wk_or
        cases rest with
        | nil => exact pw_or1 (sndT b G hb).1
        | cons z rest => exact (sndT b G hb).2 ⟨_, _, _, rfl⟩
      exact ⟨q.pt, fun _ => q⟩
    · cases h
  | .cmp op a b, X, sc, W, e, G, h => by
    unfold chkE at h
    split at h
    · rename_i x o y ev
      obtain ⟨p, rfl⟩ := vCmp_eq ev
      simp only [Bool.and_eq_true, decide_eq_true_eq] at h
      obtain ⟨⟨⟨rfl, hs⟩, ha⟩, hb⟩ := h
      have q := pt_cmpR (op_rCm G.room op) (sndE a G ha) (sndE b G hb) (mark_of hs op) (pos := p)
      rw [G.gx.hK] at q
      exact ⟨q.wk fun σ H Q z => wk_cmp σ H _ (tT_tTest σ H Q z), fun ⟨_, _, _, z⟩ => by cases z⟩
    · cases h
  | .cmp2 op op2 a b c, X, sc, W, e, G, h => by
    unfold chkE at h
    split at h
    · rename_i x o o2 y z ev
      obtain ⟨p, rfl⟩ := vCmp_eq ev
      simp only [Bool.and_eq_true, decide_eq_true_eq] at h
      obtain ⟨⟨⟨⟨⟨rfl, rfl⟩, hs⟩, ha⟩, hb⟩, hc⟩ := h
      have q := pt_chain (op_rCm G.room op) (op_rCm G.room op2) (sndE a G ha) (sndE b G hb) (sndE c G hc) (lm_of hs) (pos := p)
      rw [G.gx.hK] at q
      exact ⟨q.wk fun σ H Q z => wk_cmp2 σ H _ (tT_tTest σ H Q z), fun ⟨_, _, _, z⟩ => by cases z⟩
    · cases h
  | .ite c a b, X, sc, W, e, G, h => by
    unfold chkE at h
    split at h
    · rename_i z x y ev
      obtain ⟨p, rfl⟩ := vIf_eq ev
      simp only [Bool.and_eq_true] at h
      exact ⟨(pt_ifE (sndT c G h.1.1).1 (sndT a G h.1.2).1 (sndT b G h.2).1).wk wk_iteT, fun ⟨_, _, _, z⟩ => by cases z⟩
    · cases h
  | .var i, X, sc, W, e, G, h => pt_plain rfl h (sndE (.var i) G h)
  | .int i, X, sc, W, e, G, h => pt_plain rfl h (sndE (.int i) G h)
  | .bl b, X, sc, W, e, G, h => pt_plain rfl h (sndE (.bl b) G h)
  | .non, X, sc, W, e, G, h => pt_plain rfl h (sndE (.non) G h)
  | .str s, X, sc, W, e, G, h => pt_plain rfl h (sndE (.str s) G h)
  | .gint x i, X, sc, W, e, G, h => pt_plain rfl h (sndE (.gint x i) G h)
  | .bin op a b, X, sc, W, e, G, h => pt_plain rfl h (sndE (.bin op a b) G h)
  | .neg a, X, sc, W, e, G, h => pt_plain rfl h (sndE (.neg a) G h)
  | .tup es, X, sc, W, e, G, h => pt_plain rfl h (sndE (.tup es) G h)
  | .lst es, X, sc, W, e, G, h => pt_plain rfl h (sndE (.lst es) G h)
  | .idx a i, X, sc, W, e, G, h => pt_plain rfl h (sndE (.idx a i) G h)
  | .slc a lo hi, X, sc, W, e, G, h => pt_plain rfl h (sndE (.slc a lo hi) G h)
  | .fld a f, X, sc, W, e, G, h => pt_plain rfl h (sndE (.fld a f) G h)
  | .call f es, X, sc, W, e, G, h => pt_plain rfl h (sndE (.call f es) G h)
  | .meth n o es, X, sc, W, e, G, h => pt_plain rfl h (sndE (.meth n o es) G h)
  | .make c es, X, sc, W, e, G, h => pt_plain rfl h (sndE (.make c es) G h)
  | .blt b es, X, sc, W, e, G, h => pt_plain rfl h (sndE (.blt b es) G h)
  | .bm b o es, X, sc, W, e, G, h => pt_plain rfl h (sndE (.bm b o es) G h)
  | .isi a t, X, sc, W, e, G, h => pt_plain rfl h (sndE (.isi a t) G h)
  | .lc own ik its p cond elt, X, sc, W, e, G, h => pt_plain rfl h (sndE (.lc own ik its p cond elt) G h)
  | .dc tk own ik its p cond ke ve, X, sc, W, e, G, h => pt_plain rfl h (sndE (.dc tk own ik its p cond ke ve) G h)
  | .dnew tk, X, sc, W, e, G, h => pt_plain rfl h (sndE (.dnew tk) G h)
  | .lz a b, X, sc, W, e, G, h => pt_plain rfl h (sndE (.lz a b) G h)
termination_by a => (sizeOf a, 1)
end
end HR

set_option linter.all false
set_option maxRecDepth 100000
set_option maxHeartbeats 4000000
/-! HR, part 16: targets and statements. -/
namespace HR
open PySem L2 PyProof.Rows

theorem _root_.L2.PG.wk {X : L2.Cx} {e : Expr} {t t' : TG} (h : PG X e t) (w : ∀ v σ H Q, t' v σ H Q → t v σ H Q) : PG X e t' := ⟨fun pins s σ H v u Q I r q => h.run pins s σ H v u Q I r (w v σ H Q q)⟩
theorem _root_.L2.PGs.wk {X : L2.Cx} {e : List Expr} {t t' : TGs} (h : PGs X e t) (w : ∀ v σ H Q, t' v σ H Q → t v σ H Q) : PGs X e t' := ⟨fun pins s σ H v u Q I r q => h.run pins s σ H v u Q I r (w v σ H Q q)⟩
theorem _root_.L2.PS.wk {X : L2.Cx} {e : Stmt} {t t' : TS} (h : PS X e t) (w : ∀ D σ H, t' D σ H → t D σ H) : PS X e t' := ⟨fun pins s σ H D I q => h.run pins s σ H D I (w D σ H q)⟩
theorem _root_.L2.PSs.wk {X : L2.Cx} {e : List Stmt} {t t' : TS} (h : PSs X e t) (w : ∀ D σ H, t' D σ H → t D σ H) : PSs X e t' := ⟨fun pins s σ H D I q => h.run pins s σ H D I (w D σ H q)⟩

/-! ### o.f = v as a target -/
section
variable {X : L2.Cx}
theorem pg_fld {o : Expr} {to : TE} {f : Str} {pos : Pos} (ho : PE X o to) : PG X (.Attribute o f pos) (fun v σ H Q => to σ H fun x H1 => ∃ a Ca dx fs, x = .ref a ∧ H1 a = some (.ins Ca dx fs) ∧ Cls X.K Ca ∧ NoAttr X.K Ca f ∧ fs.length < 1000 ∧ Q σ (upd H1 a (.ins Ca dx (putF f v fs)))) := by
  refine ⟨fun pins s σ H v u Q I r h => ?_⟩
  show wpAny _ _ (do let ov ← holding [u] (eval o X.env); standAt pos.atName; holding [u, ov] (setAttr ov f u); release [u, ov] []) _ _ s
  refine wpAny_bind (wpAny_holding (thn (ho.run pins s σ H _ I h) fun ov s1 ⟨x, H1, I1, rx, a, Ca, dx, fs, ex, ea, c, n, hl, q⟩ => ?_))
  subst ex
  obtain rfl : ov = Value.ref a := rx
  refine wpAny_bind (wpAny_standAt (wpAny_bind (wpAny_holding (setattr_ok I1 ea c n hl r fun s2 I2 => wpAny_release ⟨σ, _, I2, q⟩))))
theorem _root_.L2.PSet.or {t t' : TSet} (h : PSet X t) (h' : PSet X t') : PSet X (fun o i v H Q => t o i v H Q ∨ t' o i v H Q) := by
  intro pins s σ H o i v ov iv u Q I ro ri rv q
  rcases q with q | q
  · exact h pins s σ H o i v ov iv u Q I ro ri rv q
  · exact h' pins s σ H o i v ov iv u Q I ro ri rv q
end

/-! ### the checker of targets and statements -/
mutual
def chkT (ck : Ck) (sc : Scope) : T → Expr → Bool
  | .pat p, e => chkP ck sc p e
  | .fld o f, e => match vAttr e with
    | some (x, n) => decide (ck.tb.flds.lookup f = some n) && chkE ck sc o x
    | none => false
  | .sub o i, e => match vSub e with
    | some (x, y) => noSl y && chkE ck sc o x && chkE ck sc i y
    | none => false
  | .tup ts, e => match vTup e with
    | some es => chkTs ck sc ts es
    | none => false
def chkTs (ck : Ck) (sc : Scope) : List T → List Expr → Bool
  | [], es => match es with | [] => true | _ => false
  | t :: ts, es => match es with
    | e :: es => noStar e && chkT ck sc t e && chkTs ck sc ts es
    | [] => false
end
def isComp : Expr → Bool
  | .ListComp _ _ _ _ => true
  | .SetComp _ _ _ _ => true
  | .DictComp _ _ _ _ _ => true
  | _ => false
/-- name = [..], {..}: swapped -/
def swComp (sc : Scope) (tg e : Expr) : Bool :=
  match tg with
  | .Name t pos => match e with
    | .ListComp _ _ s2 p => decide (sc.names.lookup t = some .local) && pos.line == p.line && !(s2.names.any fun (n, k) => n == t && (k == .local || k == .cell))
    | .DictComp _ _ _ s2 p => decide (sc.names.lookup t = some .local) && pos.line == p.line && !(s2.names.any fun (n, k) => n == t && (k == .local || k == .cell))
    | _ => false
  | _ => false
/-- name = [..], the name not a plain local -/
def swNot (sc : Scope) (tg : Expr) : Bool :=
  match tg with
  | .Name t _ => match sc.names.lookup t with
    | some .local => false
    | _ => true
  | _ => false
def isNameE : Expr → Bool
  | .Name _ _ => true
  | _ => false
def swNames (sc : Scope) (ts : List Expr) : List Str := ts.filterMap fun
    | .Name id pos => if sc.names.lookup id == some .local && pos.line == (ts.head?.map (·.pos.line)).getD 0 then some id else none
    | _ => none
def isStarE : Expr → Bool
  | .Starred _ _ => true
  | _ => false
/-- the stores of a tuple are not swapped -/
def swNone (sc : Scope) (tg e : Expr) : Bool :=
  match tg with
  | .Tuple ts _ _ => match e with
    | .Tuple vs _ _ => !(ts.length == 2 || ts.length == 3) || vs.length != ts.length || ((swNames sc ts).length != ts.length || (swNames sc ts).eraseDups.length != (swNames sc ts).length) || vs.all (foldedForSure 8)
    | _ => true
  | .List _ _ => false
  | _ => true
/-- they are -/
def swSome (sc : Scope) (ts vs : List Expr) : Bool :=
  (ts.length == 2 || ts.length == 3) && vs.length == ts.length && vs.all noStar && (swNames sc ts).length == ts.length && (swNames sc ts).eraseDups.length == (swNames sc ts).length && !vs.all (foldedForSure 8) && !vs.all (constantsAlone 8)
def namesAre (ck : Ck) (sc : Scope) : List Nat → List Expr → Bool
  | [], es => match es with | [] => true | _ => false
  | i :: is, es => match es with
    | .Name x _ :: es => decide (ck.N[i]? = some x) && decide (sc.names.lookup x = some .local) && namesAre ck sc is es
    | _ => false
def augOk : Operator → Bool
  | .Add => true
  | .Sub => true
  | _ => false
mutual
def chkS (ck : Ck) (sc : Scope) : S → Stmt → Bool
  | .nev, _ => true
  | .pas, st => match st with
    | .Pass _ => true
    | .Expr (.Constant (.str _) _ _) _ => true
    | _ => false
  | .ex e, st => match st with
    | .Expr x _ => !isComp x && chkE ck sc e x
    | _ => false
  | .asg t e, st => match st with
    | .Assign [tg] x _ => chkT ck sc t tg && chkE ck sc e x && ((isComp x && swComp sc tg x && isNameE tg) || ((!isComp x || !isNameE tg || swNot sc tg) && swNone sc tg x && noStar tg))
    | _ => false
  | .par is es, st => match st with
    | .Assign [.Tuple ts _ _] (.Tuple vs _ _) _ => namesAre ck sc is ts && decide is.Nodup && swSome sc ts vs && chkL ck sc es vs
    | _ => false
  | .aug i op e, st => match st with
    | .AugAssign (.Name x _) o v _ => decide (ck.N[i]? = some x) && isOwn sc x && decide (op = o) && augOk op && chkE ck sc e v
    | _ => false
  | .ifS c a b, st => match st with
    | .If x p q _ => chkE ck sc c x && chkSs ck sc a p && chkSs ck sc b q
    | _ => false
  | .forS ik it p body, st => match st with
    | .For tg iter bd orelse _ => orelse.isEmpty && chkP ck sc p tg && (match itArgs sc ik tg iter with
          | some xs => chkL ck sc it xs
          | none => false) && (decide (ik ≠ .items) || isPath it) && chkSs ck sc body bd
    | _ => false
  | .whl c body, st => match st with
    | .While x bd orelse _ => orelse.isEmpty && chkE ck sc c x && chkSs ck sc body bd
    | _ => false
  | .ret e, st => match st with
    | .Return (some x) _ => chkE ck sc e x
    | .Return none _ => (match e with | .non => true | _ => false)
    | _ => false
  | .brk, st => match st with
    | .Break _ => true
    | _ => false
  | .cnt, st => match st with
    | .Continue _ => true
    | _ => false
  | .rse c, st => match st with
    | .Raise (some (.Call (.Name x _) [.Constant (.str _) _ _] [] _)) none _ => decide (ck.tb.exs.lookup c = some x) && isGl sc x && !(x == ("__debug__" : Str))
    | _ => false
  | .tryR body x b, st => match st with
    | .Try bd [.ExceptHandler (some (.Name y _)) none [.Return (some (.Constant (.bool b2) _ _)) _] _] [] [] _ => decide (ck.tb.exs.lookup x = some y) && isGl sc y && !(y == ("__debug__" : Str)) && (b == b2) && chkSs ck sc body bd
    | _ => false
def chkSs (ck : Ck) (sc : Scope) : List S → List Stmt → Bool
  | [], xs => match xs with | [] => true | _ => false
  | s :: ss, xs => match xs with
    | x :: xs => chkS ck sc s x && chkSs ck sc ss xs
    | [] => false
end

/-! ### what the looks at assignments give -/
section
variable {sc : Scope} {env : Env}
theorem bk_fun (hk : env.scope.kind = .function) : env.blockKind = .function := by unfold Env.blockKind; rw [hk]; rfl
theorem sw_plain {e : Expr} (h : isComp e = false) (t : Option Expr) (l : Nat) : swapsWith e t l env = pure false := by
  cases e <;> first | rfl | cases h
theorem sw_notName {e tg : Expr} (h : isNameE tg = false) (l : Nat) : swapsWith e (some tg) l env = pure false := by
  cases tg <;> first | (cases h; done) | (cases e <;> rfl)
theorem sw_not {e tg : Expr} (hS : env.scope = sc) (hk : env.scope.kind = .function) (h : swNot sc tg = true) (l : Nat) : swapsWith e (some tg) l env = pure false := by
  cases tg with
  | Name t p =>
    have ky : (env.kindOf t == some .local) = false := by
      unfold Env.kindOf
      rw [hS]
      simp only [swNot] at h
      split at h
      · cases h
      · rename_i hn
        cases e : sc.names.lookup t with
        | none => rfl
        | some kd =>
          cases kd with
          | «local» => exact absurd e hn
          | _ => rfl
    unfold swapsWith
    cases e <;> first | rfl | (simp only [bk_fun hk, ky]; rfl)
  | _ => cases h
theorem sw_compL {elt : Expr} {gs : List Comprehension} {s2 : Scope} {p py : Pos} {y : Str} {l : Nat} (hS : env.scope = sc) (hk : env.scope.kind = .function) (h : swComp sc (.Name y py) (.ListComp elt gs s2 p) = true) : sc.names.lookup y = some .local ∧ swapsWith (.ListComp elt gs s2 p) (some (.Name y py)) l env = pure true := by
  simp only [swComp, Bool.and_eq_true, Bool.not_eq_true', decide_eq_true_eq] at h
  refine ⟨h.1.1, ?_⟩
  unfold swapsWith
  have ky : env.kindOf y = some .local := by unfold Env.kindOf; rw [hS]; exact h.1.1
  simp only [bk_fun hk, ky, Expr.pos, h.1.2, h.2]
  rfl
theorem sw_compD {kx vx : Expr} {gs : List Comprehension} {s2 : Scope} {p py : Pos} {y : Str} {l : Nat} (hS : env.scope = sc) (hk : env.scope.kind = .function) (h : swComp sc (.Name y py) (.DictComp kx vx gs s2 p) = true) : sc.names.lookup y = some .local ∧ swapsWith (.DictComp kx vx gs s2 p) (some (.Name y py)) l env = pure true := by
  simp only [swComp, Bool.and_eq_true, Bool.not_eq_true', decide_eq_true_eq] at h
  refine ⟨h.1.1, ?_⟩
  unfold swapsWith
  have ky : env.kindOf y = some .local := by unfold Env.kindOf; rw [hS]; exact h.1.1
  simp only [bk_fun hk, ky, Expr.pos, h.1.2, h.2]
  rfl
theorem sw_none {tg e : Expr} (hS : env.scope = sc) (hk : env.scope.kind = .function) (h : swNone sc tg e = true) : swappedStores [tg] e env = pure none := by
  cases tg with
  | Tuple ts j p =>
    cases e with
    | Tuple vs j2 p2 =>
      subst hS
      simp only [swNone, Bool.or_eq_true] at h
      unfold swappedStores
      simp only [bk_fun hk]
      split
      · rfl
      · rename_i h1
        split
        · rfl
        · split
          · rfl
          · rename_i h3
            split
            · rfl
            · rename_i h4
              exfalso
              have h3' : ¬ ((swNames env.scope ts).length != ts.length || (swNames env.scope ts).eraseDups.length != (swNames env.scope ts).length) = true := h3
              simp only [Bool.or_eq_true, not_or] at h1 h3'
              rcases h with (h | h) | h
              · rcases h with h | h
                · exact h1.1.1 h
                · exact h1.1.2 h
              · rcases h with h | h
                · exact h3'.1 h
                · exact h3'.2 h
              · exact h4 h
    | _ => rfl
  | List es p => cases h
  | _ => rfl
theorem sw_some {ts vs : List Expr} {j j2 : Nat} {p p2 : Pos} (hS : env.scope = sc) (hk : env.scope.kind = .function) (h : swSome sc ts vs = true) : swappedStores [.Tuple ts j p] (.Tuple vs j2 p2) env = pure (some (swNames sc ts)) := by
  subst hS
  simp only [swSome, Bool.and_eq_true, Bool.not_eq_true', beq_iff_eq] at h
  obtain ⟨⟨⟨⟨⟨⟨h1, h2⟩, h3⟩, h4⟩, h5⟩, h6⟩, h7⟩ := h
  unfold swappedStores
  simp only [bk_fun hk]
  split
  · rename_i z
    exfalso
    rw [h1] at z
    simp [h2] at z
  · split
    · rename_i z
      exfalso
      obtain ⟨x, hx, hz⟩ := List.any_eq_true.mp z
      have := List.all_eq_true.mp h3 x hx
      cases x <;> first | (cases this; done) | (cases hz; done)
    · split
      · rename_i z
        exfalso
        have z' : ((swNames env.scope ts).length != ts.length || (swNames env.scope ts).eraseDups.length != (swNames env.scope ts).length) = true := z
        simp [h4, h5] at z'
      · split
        · rename_i z; rw [h6] at z; cases z
        · split
          · rename_i z; rw [h7] at z; cases z
          · rfl
end
section
variable {X : L2.Cx} {C : Ct} {ck : Ck} {cx : HR.Cx} {k : Nat} {sc : Scope} {W : WX}
theorem own_fn (G : Good C ck cx k sc W X) (hf : X.fn = fun _ => true) : OwnOk X sc := fun x hx => ⟨by rw [G.hS]; exact own_of hx, .inl (by rw [hf])⟩

/-! ### targets -/
theorem calm_bind {α β : Type} {x : R α} {f : α → Mem → R β} : (x.bind f).calm = x.calm.bind fun a m => (f a m).calm := by
  cases x <;> rfl
def gT (C : Ct) (cx : HR.Cx) (t : T) : TG := fun v σ H Q => ∃ th r m d, Sim C th H m ∧ RS C th H σ r ∧ RV C.K th H v d ∧ Gd C th H (asgT cx t d r m).calm (fun th' H' σ' r' => RS C th' H' σ' r') (fun _ σ' H' _ => Q σ' H') (fun _ _ _ => True)
def gTs (C : Ct) (cx : HR.Cx) (ts : List T) : TGs := fun vs σ H Q => ∃ th r m ds, Sim C th H m ∧ RS C th H σ r ∧ RVs C.K th H vs ds ∧ Gd C th H (asgTs cx ts ds r m).calm (fun th' H' σ' r' => RS C th' H' σ' r') (fun _ σ' H' _ => Q σ' H') (fun _ _ _ => True)
theorem stepC {e : E} {σ : L2.St} {H : Hp} {th : List Addr} {r : Sl} {m : Mem} {α β : Type} {f : D → Mem → R α} {Rel : List Addr → Hp → β → α → Prop} {P : List Addr → β → Hp → Mem → Prop} {We : Value → Option Addr → Hp → Prop} {Q : VK}
    (S : Sim C th H m) (rs : RS C th H σ r) (h : Gd C th H ((evE cx e r m).bind f).calm Rel P We)
    (next : ∀ th1 v H1 m1 d, Sim C th1 H1 m1 → RS C th1 H1 σ r → RV C.K th1 H1 v d → Pre th th1 → Keep C.K H H1 → Gd C th1 H1 (f d m1).calm Rel P We → Q v H1) : tE C cx W e σ H Q := by
  rw [calm_bind] at h
  have hb := Gd.calm (W' := fun cl d H' => W cl d σ H') (Gd.bind (Rel := fun th' H' v d => RV C.K th' H' v d) h)
  exact ⟨th, r, m, S, rs, hb.imp fun th1 v H1 m1 ⟨d, e1, p, kp, S1, rv, g⟩ => next th1 v H1 m1 d S1 (rs.mono p kp) rv p kp g⟩
/-- o[i] = v: a list's place, a dict's key -/
def rSetA : TSet := fun o i v H Q => rSetL o i v H Q ∨ rSetD o i v H Q
theorem set_rSetA {X : L2.Cx} (hu : X.A.units + 1 < cLine) : PSet X rSetA := PSet.or set_list (set_dict hu)
theorem setSub_rule {th : List Addr} {H : Hp} {m m' : Mem} {o i v : V} {a b d : D} {Q : Hp → Prop} (S : Sim C th H m) (ro : RV C.K th H o a) (ri : RV C.K th H i b) (rv : RV C.K th H v d) (e : setSub a b d m = some m') (hQ : ∀ H', Keep C.K H H' → Sim C th H' m' → Q H') : rSetA o i v H Q := by
  cases ro with
  | ref hk =>
    simp only [setSub] at e
    split at e
    · rename_i xs em
      split at e
      · rename_i j
        cases ri with
        | int _ =>
          simp only [Option.map_eq_some_iff] at e
          obtain ⟨n, en, rfl⟩ := e
          obtain ⟨ws, f, q⟩ := S.lst hk em
          have kk : Keep C.K H (upd H _ (.lst (ws.set n v))) := keep_upd (.inl (by rw [f]; trivial))
          refine .inl ⟨_, ws, j, n, rfl, rfl, f, by rw [q.length]; exact en, hQ _ kk ?_⟩
          exact S.set (o := .lst (xs.set n d)) hk kk ⟨_, upd_same, RVs.set (rv.mono (Pre.refl _) kk) n (q.mono (Pre.refl _) kk)⟩
      · cases e
    · obtain ⟨H', dp, kk, S'⟩ := dcPut_rule S hk ri rv e
      exact .inr ⟨_, H', rfl, dp, hQ _ kk S'⟩
  | _ => cases e
theorem asgTs_len : ∀ (ts : List T) {ds : List D} {r r' : Sl} {m m' : Mem}, asgTs cx ts ds r m = .ok r' m' → ds.length = ts.length
  | [], ds, r, r', m, m', e => by
    cases ds with
    | nil => rfl
    | cons _ _ => simp [asgTs] at e
  | t :: ts, ds, r, r', m, m', e => by
    cases ds with
    | nil => simp [asgTs] at e
    | cons d ds =>
      simp only [asgTs] at e
      cases h : asgT cx t d r m with
      | ok r1 m1 =>
        rw [h, R.bind_ok] at e
        simp [asgTs_len ts e]
      | exn _ _ _ => rw [h] at e; cases e
      | bad => rw [h] at e; cases e
mutual
theorem sndG (hf : X.fn = fun _ => true) (G : Good C ck cx k sc W X) : ∀ (t : T) (e : Expr), chkT ck sc t e = true → PG X e (gT C cx t)
  | .pat p, e, h => by
    unfold chkT at h
    refine (pg_pat G.hN G.nd G.calm (own_fn G hf) p e h).wk fun v σ H Q ⟨th, r, m, d, S, rs, rv, g⟩ => ?_
    rw [G.gx.hK]
    unfold asgT at g
    obtain ⟨r', er, g2⟩ := gd_of (Gd.calm (W' := fun _ _ _ => True) g)
    exact gP_ok p rs rv er fun σ' rs' _ => Gd.here S rs' g2
  | .fld o f, e, h => by
    unfold chkT at h
    split at h
    · rename_i x n ev
      obtain ⟨p, rfl⟩ := vAttr_eq ev
      simp only [Bool.and_eq_true, decide_eq_true_eq] at h
      obtain ⟨hfl, ho⟩ := h
      rw [G.gx.tb] at hfl
      refine (pg_fld (sndE o G ho)).wk fun v σ H Q ⟨th, r, m, d, S, rs, rv, g⟩ => ?_
      unfold asgT at g
      refine stepC S rs g fun th1 w H1 m1 a S1 rs1 rw1 p1 k1 g1 => ?_
      cases hs : setFld a f d m1 with
      | none => rw [hs] at g1; exact g1.elim
      | some m2 =>
        rw [hs] at g1
        obtain ⟨pa, c, nm, dx, fs, rfl, e1, e2, e3, S2, k2⟩ := setFld_rule G.gx.fnd S1 hfl rw1 (rv.mono p1 k1) hs
        refine ⟨pa, C.cl c, dx, fs, rfl, e1, (G.gx.cls c nm e2).2, G.gx.nat c nm f n e2 hfl, e3, ?_⟩
        exact g1 _ _ σ (Pre.refl _) k2 S2 (rs1.mono (Pre.refl _) k2)
    · cases h
  | .sub o i, e, h => by
    unfold chkT at h
    split at h
    · rename_i x y ev
      obtain ⟨p, rfl⟩ := vSub_eq ev
      simp only [Bool.and_eq_true] at h
      obtain ⟨⟨hsl, ho⟩, hi⟩ := h
      refine (pg_sub (sndE o G ho) (sndE i G hi) (set_rSetA (by have := G.room.un; omega)) (fun v => by cases y <;> first | rfl | cases hsl)).wk fun v σ H Q ⟨th, r, m, d, S, rs, rv, g⟩ => ?_
      unfold asgT at g
      refine stepC S rs g fun th1 w H1 m1 a S1 rs1 rw1 p1 k1 g1 => stepC S1 rs1 g1 fun th2 w2 H2 m2 b S2 rs2 rw2 p2 k2 g2 => ?_
      cases hs : setSub a b d m2 with
      | none => rw [hs] at g2; exact g2.elim
      | some m3 =>
        rw [hs] at g2
        exact setSub_rule S2 (rw1.mono p2 k2) rw2 ((rv.mono p1 k1).mono p2 k2) hs fun H' kk S' => g2 _ _ σ (Pre.refl _) kk S' (rs2.mono (Pre.refl _) kk)
    · cases h
  | .tup ts, e, h => by
    unfold chkT at h
    split at h
    · rename_i es ev
      obtain ⟨j, p, rfl⟩ := vTup_eq ev
      obtain ⟨h1, h2, h3⟩ := sndGs hf G ts es h
      refine (pg_tup (n := ts.length) G.calm h1 h2 h3).wk fun v σ H Q ⟨th, r, m, d, S, rs, rv, g⟩ => ?_
      rw [G.gx.hK]
      unfold asgT at g
      cases rv with
      | @tup _ _ ds f q =>
        have g : Gd C th H (asgTs cx ts ds r m).calm (fun th' H' σ' r' => RS C th' H' σ' r') (fun _ σ' H' _ => Q σ' H') (fun _ _ _ => True) := g
        refine ⟨_, _, rfl, .inl (.inl f), ?_, th, r, m, _, S, rs, q, g⟩
        rw [q.length]
        cases hr : asgTs cx ts ds r m with
        | ok r' m' => exact asgTs_len ts hr
        | exn _ _ _ => rw [hr] at g; exact g.elim
        | bad => rw [hr] at g; exact g.elim
      | _ => exact g.elim
    · cases h
theorem sndGs (hf : X.fn = fun _ => true) (G : Good C ck cx k sc W X) : ∀ (ts : List T) (es : List Expr), chkTs ck sc ts es = true → PGs X es (gTs C cx ts) ∧ (assignEach es X.env).length = ts.length ∧ (assignEach es X.env).findIdx? (·.1) = none
  | [], es, h => by
    cases es with
    | cons _ _ => simp [chkTs] at h
    | nil =>
      refine ⟨pgs_nil.wk fun vs σ H Q ⟨th, r, m, ds, S, rs, rv, g⟩ => ?_, rfl, rfl⟩
      unfold asgTs at g
      cases rv with
      | nil => exact ⟨rfl, Gd.here S rs g⟩
      | cons _ _ => exact g.elim
  | t :: ts, es, h => by
    cases es with
    | nil => simp [chkTs] at h
    | cons e es =>
      simp only [chkTs, Bool.and_eq_true] at h
      obtain ⟨⟨hst, ht⟩, hts⟩ := h
      obtain ⟨h1, h2, h3⟩ := sndGs hf G ts es hts
      have ea : assignEach (e :: es) X.env = (false, assign e X.env) :: assignEach es X.env := by
        cases e <;> first | rfl | cases hst
      refine ⟨(pgs_cons (sndG hf G t e ht) h1 (by rw [ea]; rfl)).wk fun vs σ H Q ⟨th, r, m, ds, S, rs, rv, g⟩ => ?_, by rw [ea]; simp [h2], by rw [ea]; simp [List.findIdx?_cons, h3]⟩
      unfold asgTs at g
      cases rv with
      | nil => exact g.elim
      | cons rv1 rv2 =>
        rw [calm_bind] at g
        refine ⟨_, _, rfl, th, r, m, _, S, rs, rv1, (Gd.bind (Rel := fun th' H' σ' r' => RS C th' H' σ' r') g).imp ?_⟩
        rintro th1 σ1 H1 m1 ⟨r1, e1, p1, k1, S1, rs1, g1⟩
        exact ⟨th1, r1, m1, _, S1, rs1, rv2.mono p1 k1, g1⟩
end
end
end HR

set_option linter.all false
set_option maxRecDepth 100000
set_option maxHeartbeats 4000000
/-! HR, part 17: statements: the checker's word is enough. -/
namespace HR
open PySem L2 PyProof.Rows

/-! ### how a statement ends -/
inductive FlV where
  | nx | bk | ct | rt (v : V) | ex (cl : Value) (d : Option Addr)
def FlR (C : Ct) (th : List Addr) (H : Hp) : FlV → Fl → Prop
  | .nx, .nx => True
  | .bk, .bk => True
  | .ct, .ct => True
  | .rt v, .rt d => RV C.K th H v d
  | .ex cl d, .ex c fs => XR C th H c fs cl d
  | _, _ => False
def SR (C : Ct) (th : List Addr) (H : Hp) (b : FlV × L2.St) (a : Fl × Sl) : Prop := FlR C th H b.1 a.1 ∧ RS C th H b.2 a.2
def QS (D : Ends) (W : WX) (b : FlV × L2.St) (H : Hp) : Prop :=
  match b.1 with
  | .nx => D.nx b.2 H
  | .bk => D.bk b.2 H
  | .ct => D.ct b.2 H
  | .rt v => D.rt v H
  | .ex cl d => W cl d b.2 H
abbrev GSt (C : Ct) (th : List Addr) (H : Hp) (r : R (Fl × Sl)) (D : Ends) (W : WX) : Prop := Gd C th H r (fun th' H' b a => SR C th' H' b a) (fun _ b H' _ => QS D W b H') (fun _ _ _ => True)
def tS (C : Ct) (cx : HR.Cx) (W : WX) (s : S) : TS := fun D σ H => ∃ th r m, Sim C th H m ∧ RS C th H σ r ∧ GSt C th H (evS cx s r m) D W
def tSs (C : Ct) (cx : HR.Cx) (W : WX) (ss : List S) : TS := fun D σ H => ∃ th r m, Sim C th H m ∧ RS C th H σ r ∧ GSt C th H (evSs cx ss r m) D W
section
variable {X : L2.Cx} {C : Ct} {ck : Ck} {cx : HR.Cx} {k : Nat} {sc : Scope} {W : WX} {Dn : Ends} {σ : L2.St} {H : Hp} {th : List Addr} {r : Sl} {m : Mem}
theorem st_nx (S : Sim C th H m) (rs : RS C th H σ r) (g : GSt C th H (.ok (.nx, r) m) Dn W) : Dn.nx σ H := Gd.here (b := (FlV.nx, σ)) S ⟨trivial, rs⟩ g
theorem st_bk (S : Sim C th H m) (rs : RS C th H σ r) (g : GSt C th H (.ok (.bk, r) m) Dn W) : Dn.bk σ H := Gd.here (b := (FlV.bk, σ)) S ⟨trivial, rs⟩ g
theorem st_ct (S : Sim C th H m) (rs : RS C th H σ r) (g : GSt C th H (.ok (.ct, r) m) Dn W) : Dn.ct σ H := Gd.here (b := (FlV.ct, σ)) S ⟨trivial, rs⟩ g
theorem st_rt {v : V} {d : D} (S : Sim C th H m) (rs : RS C th H σ r) (rv : RV C.K th H v d) (g : GSt C th H (.ok (.rt d, r) m) Dn W) : Dn.rt v H := Gd.here (b := (FlV.rt v, σ)) S ⟨rv, rs⟩ g
/-- an expression first -/
theorem Gd.sb {α β : Type} {x : R α} {f : α → Mem → R (Fl × Sl)} {Rel : List Addr → Hp → β → α → Prop} (rs : RS C th H σ r) (h : GSt C th H (x.sb r f) Dn W) :
    Gd C th H x Rel (fun th1 b H1 m1 => ∃ a, x = .ok a m1 ∧ Pre th th1 ∧ Keep C.K H H1 ∧ Sim C th1 H1 m1 ∧ Rel th1 H1 b a ∧ GSt C th1 H1 (f a m1) Dn W) (fun cl d H' => W cl d σ H') := by
  cases x with
  | bad => exact h.elim
  | ok a m1 =>
    intro th1 H1 b p kp S1 rl
    exact ⟨a, rfl, p, kp, S1, rl, Gd.shift p kp h⟩
  | exn c fs m1 =>
    intro th1 H1 cl d p kp S1 xr
    exact h th1 H1 (.ex cl d, σ) p kp S1 ⟨xr, rs.mono p kp⟩
theorem sbE {e : E} {f : D → Mem → R (Fl × Sl)} {Q : VK} (S : Sim C th H m) (rs : RS C th H σ r) (h : GSt C th H ((evE cx e r m).sb r f) Dn W)
    (next : ∀ th1 v H1 m1 d, Sim C th1 H1 m1 → RS C th1 H1 σ r → RV C.K th1 H1 v d → Pre th th1 → Keep C.K H H1 → GSt C th1 H1 (f d m1) Dn W → Q v H1) : tE C cx W e σ H Q :=
  ⟨th, r, m, S, rs, (Gd.sb (Rel := fun th' H' v d => RV C.K th' H' v d) rs h).imp fun th1 v H1 m1 ⟨d, _, p, kp, S1, rv, g⟩ => next th1 v H1 m1 d S1 (rs.mono p kp) rv p kp g⟩
theorem sbL {es : List E} {f : List D → Mem → R (Fl × Sl)} {Q : List V → Hp → Prop} (S : Sim C th H m) (rs : RS C th H σ r) (h : GSt C th H ((evL cx es r m).sb r f) Dn W)
    (next : ∀ th1 vs H1 m1 ds, Sim C th1 H1 m1 → RS C th1 H1 σ r → RVs C.K th1 H1 vs ds → Pre th th1 → Keep C.K H H1 → evL cx es r m = .ok ds m1 → GSt C th1 H1 (f ds m1) Dn W → Q vs H1) : tL C cx W es σ H Q :=
  ⟨th, r, m, S, rs, (Gd.sb (Rel := fun th' H' v d => RVs C.K th' H' v d) rs h).imp fun th1 v H1 m1 ⟨d, e1, p, kp, S1, rv, g⟩ => next th1 v H1 m1 d S1 (rs.mono p kp) rv p kp e1 g⟩
theorem sbT {e : E} {f : Bool → Mem → R (Fl × Sl)} {Q : Bool → Hp → Prop} (S : Sim C th H m) (rs : RS C th H σ r) (h : GSt C th H ((tstE cx e r m).sb r f) Dn W)
    (next : ∀ th1 (b : Bool) H1 m1, Sim C th1 H1 m1 → RS C th1 H1 σ r → Pre th th1 → Keep C.K H H1 → GSt C th1 H1 (f b m1) Dn W → Q b H1) : tT C cx W e σ H Q :=
  ⟨th, r, m, S, rs, (Gd.sb (Rel := fun _ _ (b : Bool) a => b = a) rs h).imp fun th1 b H1 m1 ⟨d, _, p, kp, S1, rv, g⟩ => by subst rv; exact next th1 b H1 m1 S1 (rs.mono p kp) p kp g⟩

/-! ### single statements -/
theorem wk_asg {t : T} {e : E} {g : TG} (hg : ∀ v σ H Q, gT C cx t v σ H Q → g v σ H Q) : ∀ Dn σ H, tS C cx W (.asg t e) Dn σ H → tAsg (tE C cx W e) g Dn σ H := fun Dn σ H ⟨th, r, m, S, rs, h⟩ => by
  unfold evS at h
  refine sbE S rs h fun th1 v H1 m1 d S1 rs1 rv p kp g => ?_
  refine hg v σ H1 _ ⟨th1, r, m1, d, S1, rs1, rv, ?_⟩
  refine (Gd.bind (Rel := fun th' H' σ' r' => RS C th' H' σ' r') g).imp ?_
  rintro th2 σ2 H2 m2 ⟨r2, e2, p2, k2, S2, rs2, g2⟩
  exact st_nx S2 rs2 g2
theorem gT_name {i : Nat} : ∀ v σ H Q, gT C cx (.pat (.name i)) v σ H Q → gName i v σ H Q := fun v σ H Q ⟨th, r, m, d, S, rs, rv, g⟩ => by
  unfold asgT asgP at g
  have g2 : Gd C th H (.ok (r.set i (some d)) m) (fun th' H' σ' r' => RS C th' H' σ' r') (fun _ σ' H' _ => Q σ' H') (fun _ _ _ => True) := g
  exact Gd.here S (rs.set rv i) g2
/-- the loop of a for -/
theorem for_loop {it : HR.It} {J : L2.It} {th0 : List Addr} {H0 : Hp} {p : P} {body : List S} {m0 : Mem} (lk : Lk C it J th0 H0) (rs : RS C th0 H0 σ r) (S : Sim C th0 H0 m0) (g : GSt C th0 H0 (forLoop it p (fun r m => evSs cx body r m) FU 0 r m0) Dn W) :
    ∃ Wl : Nat → Nat → L2.St → Hp → Prop, (∃ n, Wl 0 n σ H0) ∧ ∀ i n σ H, Wl i n σ H → (J.stop i H ∧ Dn.nx σ H) ∨ (J.go i H ∧ ∃ N : L2.St → Hp → Prop, (∀ σ' H', N σ' H' → ∃ n', n' < n ∧ Wl (i + 1) n' σ' H') ∧
      ∀ x H', J.yld i H x H' → gP C.K p x σ H' fun σ2 H2 => tSs C cx W body { Dn with nx := N, ct := N, bk := Dn.nx } σ2 H2) := by
  refine ⟨fun i n σ H => ∃ th r m, Pre th0 th ∧ Keep C.K H0 H ∧ Sim C th H m ∧ RS C th H σ r ∧ GSt C th H (forLoop it p (fun r m => evSs cx body r m) n i r m) Dn W, ⟨FU, th0, r, m0, Pre.refl _, Keep.refl _ _, S, rs, g⟩, ?_⟩
  rintro i n σ H ⟨th, r, m, pr, kp, S1, rs1, g1⟩
  cases n with
  | zero => exact g1.elim
  | succ n =>
    unfold forLoop at g1
    cases hn : it.nth i m with
    | none => rw [hn] at g1; exact g1.elim
    | some o =>
      rw [hn] at g1
      cases o with
      | none => exact .inl ⟨lk.stop i th H m pr kp S1 hn, st_nx S1 rs1 g1⟩
      | some x =>
        obtain ⟨go, yl⟩ := lk.go i th H m x pr kp S1 hn
        refine .inr ⟨go, fun σ' H' => ∃ th r m, Pre th0 th ∧ Keep C.K H0 H' ∧ Sim C th H' m ∧ RS C th H' σ' r ∧ GSt C th H' (forLoop it p (fun r m => evSs cx body r m) n (i + 1) r m) Dn W, fun σ' H' h => ⟨n, Nat.lt_succ_self _, h⟩, fun v H' hy => ?_⟩
        obtain ⟨ky, Sy, rv⟩ := yl v H' hy
        have rs2 := rs1.mono (Pre.refl _) ky
        simp only at g1
        cases ha : asgP p x r with
        | none => rw [ha] at g1; exact g1.elim
        | some r1 =>
          rw [ha] at g1
          refine gP_ok p rs2 rv ha fun σ3 rs3 _ => ⟨th, r1, m, Sy, rs3, ?_⟩
          refine (Gd.bind (Rel := fun th' H' b a => SR C th' H' b a) (Gd.shift (Pre.refl _) ky g1)).imp ?_
          rintro th4 ⟨fv, σ4⟩ H4 m4 ⟨⟨fl, r4⟩, e4, p4, k4, S4, ⟨fr, rs4⟩, g4⟩
          have pr4 := pr.trans p4
          have kp4 := (kp.trans ky).trans k4
          cases fl with
          | nx => cases fv <;> first | exact fr.elim | exact ⟨th4, r4, m4, pr4, kp4, S4, rs4, g4⟩
          | ct => cases fv <;> first | exact fr.elim | exact ⟨th4, r4, m4, pr4, kp4, S4, rs4, g4⟩
          | bk => cases fv <;> first | exact fr.elim | exact st_nx S4 rs4 g4
          | rt d => cases fv <;> first | exact fr.elim | exact st_rt (Dn := Dn) S4 rs4 fr g4
          | ex c fs => cases fv <;> first | exact fr.elim | exact Gd.here (b := (FlV.ex _ _, σ4)) S4 ⟨fr, rs4⟩ g4
theorem wk_for {ik : IK} {its : List E} {p : P} {body : List S} (hik : ik ≠ .items) : ∀ Dn σ H, tS C cx W (.forS ik its p body) Dn σ H → tFor (tI C cx W ik its) (gP C.K p) (tSs C cx W body) Dn σ H := fun Dn σ H ⟨th, r, m, S, rs, h⟩ => by
  unfold evS at h
  have h2 : GSt C th H (((evL cx its r m).bind fun ds m1 => R.of m1 (mkIt ik ds m1)).sb r fun q m1 => (forLoop q.1 p (fun r m => evSs cx body r m) FU 0 r q.2).bind fun a m3 => match a.1 with
        | .ex c fs => .ok (.ex c fs, a.2) m3
        | .nx => .ok (.nx, a.2) (endIt q.1 m3)
        | .bk => .ok (.bk, a.2) (endIt q.1 m3)
        | .ct => .ok (.ct, a.2) (endIt q.1 m3)
        | .rt d => .ok (.rt d, a.2) (endIt q.1 m3)) Dn W := by
    cases e1 : evL cx its r m with
    | ok ds m1 =>
      rw [e1] at h
      simp only [R.sb_ok, R.bind_ok] at h ⊢
      cases e2 : mkIt ik ds m1 with
      | none => rw [e2] at h; exact h.elim
      | some q => rw [e2] at h; exact h
    | exn _ _ _ => rw [e1] at h; exact h
    | bad => rw [e1] at h; exact h.elim
  have hb := Gd.sb (Rel := fun th' H' (J : L2.It) (p : HR.It × Mem) => Lk C p.1 J th' H') rs h2
  refine ⟨th, r, m, S, rs, hb.imp ?_⟩
  rintro th1 J H1 m1 ⟨⟨it, m2⟩, e1, p1, k1, S1, lk, g⟩
  obtain ⟨rfl, hend⟩ : m2 = m1 ∧ ∀ m', endIt it m' = m' := by
    cases e2 : evL cx its r m with
    | ok ds m1' =>
      rw [e2, R.bind_ok] at e1
      cases e3 : mkIt ik ds m1' with
      | none => rw [e3] at e1; cases e1
      | some q =>
        rw [e3] at e1
        cases e1
        exact mkIt_same e3 hik
    | exn _ _ _ => rw [e2] at e1; cases e1
    | bad => rw [e2] at e1; cases e1
  have g3 : GSt C th1 H1 (forLoop it p (fun r m => evSs cx body r m) FU 0 r m2) Dn W := by
    have hid : ∀ x : R (Fl × Sl), (x.bind fun a m3 => match a.1 with
        | .ex c fs => .ok (.ex c fs, a.2) m3
        | .nx => .ok (.nx, a.2) (endIt it m3)
        | .bk => .ok (.bk, a.2) (endIt it m3)
        | .ct => .ok (.ct, a.2) (endIt it m3)
        | .rt d => .ok (.rt d, a.2) (endIt it m3)) = x := fun x => by
      cases x with
      | ok a m3 =>
        obtain ⟨fl, r'⟩ := a
        rw [R.bind_ok]
        cases fl <;> simp [hend]
      | exn _ _ _ => rfl
      | bad => rfl
    rw [hid] at g
    exact g
  exact for_loop lk (rs.mono p1 k1) S1 g3
/-- as lock has it -/
def lkE (d : Addr) (od : Obj) (u : HO) (Dn : Ends) : Ends := ⟨fun σ' H' => H' d = some (.frz od u) ∧ Dn.nx σ' (upd H' d u), fun v H' => H' d = some (.frz od u) ∧ Dn.rt v (upd H' d u), fun σ' H' => H' d = some (.frz od u) ∧ Dn.bk σ' (upd H' d u), fun σ' H' => H' d = some (.frz od u) ∧ Dn.ct σ' (upd H' d u)⟩
theorem RS.monoV {th' : List Addr} {H' : Hp} (rs : RS C th H σ r) (p : Pre th th') (k : KeepV C.K H H') : RS C th' H' σ r := ⟨rs.len, fun i d h => let ⟨v, h1, h2⟩ := rs.at_ i d h; ⟨v, h1, h2.monoV p k⟩⟩
theorem unlock_s {x : R (Fl × Sl)} {th' : List Addr} {H' : Hp} {kd : Nat} {a : Addr} {u : HO} {od : Obj} (l : Lkd C th H m kd a u) (p : Pre th th') (kp : Keep C.K (upd H a (.frz od u)) H')
    (g : GSt C th H (x.bind fun q m3 => match q.1 with
        | .ex c fs => .ok (.ex c fs, q.2) m3
        | .nx => .ok (.nx, q.2) (endIt (.items kd) m3)
        | .bk => .ok (.bk, q.2) (endIt (.items kd) m3)
        | .ct => .ok (.ct, q.2) (endIt (.items kd) m3)
        | .rt d => .ok (.rt d, q.2) (endIt (.items kd) m3)) Dn W) : GSt C th' H' x (lkE a od u Dn) W := by
  cases x with
  | bad => exact g.elim
  | exn c fs m => exact fun _ _ _ _ _ _ _ => fun _ => trivial
  | ok q m5 =>
    obtain ⟨fl, r'⟩ := q
    rintro t2 Hx ⟨fv, σ2⟩ p2 k2 S2 ⟨fr, rs2⟩
    obtain ⟨f, kf, kv, Sf⟩ := l.free (p.trans p2) (kp.trans k2) S2
    have rs3 : RS C t2 (upd Hx a u) σ2 r' := rs2.monoV (Pre.refl _) kv
    have pt := p.trans p2
    cases fl with
    | nx => cases fv <;> first | exact fr.elim | exact ⟨f, g t2 (upd Hx a u) (.nx, σ2) pt kf Sf ⟨trivial, rs3⟩⟩
    | bk => cases fv <;> first | exact fr.elim | exact ⟨f, g t2 (upd Hx a u) (.bk, σ2) pt kf Sf ⟨trivial, rs3⟩⟩
    | ct => cases fv <;> first | exact fr.elim | exact ⟨f, g t2 (upd Hx a u) (.ct, σ2) pt kf Sf ⟨trivial, rs3⟩⟩
    | rt d =>
      cases fv with
      | rt v =>
        have fr : RV C.K t2 Hx v d := fr
        exact ⟨f, g t2 (upd Hx a u) (.rt v, σ2) pt kf Sf ⟨fr.monoV (Pre.refl _) kv, rs3⟩⟩
      | _ => exact fr.elim
    | ex c fs =>
      have k1 : Keep C.K H (upd H a (.frz od u)) := keep_upd (.inl (by rw [l.ha]; exact l.mut))
      cases fv with
      | ex cl d => exact g t2 Hx (.ex cl d, σ2) pt ((k1.trans kp).trans k2) S2 ⟨fr, rs2⟩
      | _ => exact fr.elim
theorem wk_forItems {its : List E} {p : P} {body : List S} (hp : isPath its = true) {e : E} (he : its = [e]) : ∀ Dn σ H, tS C cx W (.forS .items its p body) Dn σ H → tLock (tFor (iPairs (tE C cx W e)) (gP C.K p) (tSs C cx W body)) Dn σ H := fun Dn σ H ⟨th, r, m, S, rs, h⟩ => by
  unfold evS at h
  have h2 : GSt C th H ((evL cx its r m).bind fun ds m1 => match mkIt .items ds m1 with
      | none => .bad
      | some (J, m2) => (forLoop J p (fun r m => evSs cx body r m) FU 0 r m2).bind fun q m3 => match q.1 with
        | .ex c fs => .ok (.ex c fs, q.2) m3
        | .nx => .ok (.nx, q.2) (endIt J m3)
        | .bk => .ok (.bk, q.2) (endIt J m3)
        | .ct => .ok (.ct, q.2) (endIt J m3)
        | .rt d => .ok (.rt d, q.2) (endIt J m3)) Dn W := by
    cases e1 : evL cx its r m with
    | ok ds m1 => rw [e1] at h; exact h
    | exn _ _ _ => exact fun _ _ _ _ _ _ _ => fun _ => trivial
    | bad => rw [e1] at h; exact h.elim
  obtain ⟨e', d, rfl, e1, g, hl⟩ := path_ev (j := 0) hp h2
  cases he
  split at g
  · exact g.elim
  · rename_i it m2 hm
    obtain ⟨kd, rfl, rfl, rfl, hd, hd2⟩ := mkIt_items hm
    obtain ⟨a, u, l, Sl⟩ := lkd_of S hd2
    refine ⟨a, u, l.ha, l.mut, fun od => ?_⟩
    have kl : Keep C.K H (upd H a (.frz od u)) := keep_upd (.inl (by rw [l.ha]; exact l.mut))
    exact pairs_at l (Sl od) rs (hl kd true hd) fun J th' H' p' k' S' lk => for_loop lk (rs.mono p' (kl.trans k')) S' (unlock_s l p' k' g)
theorem wk_while {c : E} {body : List S} : ∀ Dn σ H, tS C cx W (.whl c body) Dn σ H → tWhile (tT C cx W c) (tSs C cx W body) Dn σ H := fun Dn σ H ⟨th0, r0, m0, S0, rs0, h⟩ => by
  unfold evS at h
  refine ⟨fun n σ H => ∃ th r m, Sim C th H m ∧ RS C th H σ r ∧ GSt C th H (whlLoop (fun r m => tstE cx c r m) (fun r m => evSs cx body r m) n r m) Dn W, ⟨FU, th0, r0, m0, S0, rs0, h⟩, ?_⟩
  rintro n σ H ⟨th, r, m, S, rs, g⟩
  cases n with
  | zero => exact g.elim
  | succ n =>
    unfold whlLoop at g
    refine sbT S rs g fun th1 b H1 m1 S1 rs1 p1 k1 g1 => ?_
    cases b with
    | false => exact st_nx S1 rs1 g1
    | true =>
      simp only [if_true] at g1 ⊢
      refine ⟨fun σ' H' => ∃ th r m, Sim C th H' m ∧ RS C th H' σ' r ∧ GSt C th H' (whlLoop (fun r m => tstE cx c r m) (fun r m => evSs cx body r m) n r m) Dn W, fun σ' H' h => ⟨n, Nat.lt_succ_self _, h⟩, th1, r, m1, S1, rs1, ?_⟩
      refine (Gd.bind (Rel := fun th' H' b a => SR C th' H' b a) g1).imp ?_
      rintro th4 ⟨fv, σ4⟩ H4 m4 ⟨⟨fl, r4⟩, e4, p4, k4, S4, ⟨fr, rs4⟩, g4⟩
      cases fl with
      | nx => cases fv <;> first | exact fr.elim | exact ⟨th4, r4, m4, S4, rs4, g4⟩
      | ct => cases fv <;> first | exact fr.elim | exact ⟨th4, r4, m4, S4, rs4, g4⟩
      | bk => cases fv <;> first | exact fr.elim | exact st_nx S4 rs4 g4
      | rt d => cases fv <;> first | exact fr.elim | exact st_rt (Dn := Dn) S4 rs4 fr g4
      | ex c fs => cases fv <;> first | exact fr.elim | exact Gd.here (b := (FlV.ex _ _, σ4)) S4 ⟨fr, rs4⟩ g4
/-- raise X('..') -/
theorem wk_rse {c : Nat} : ∀ Dn σ H, tS C cx W (.rse c) Dn σ H → W (.ref (C.cl c)) none σ H := fun Dn σ H ⟨th, r, m, S, rs, h⟩ => by
  unfold evS at h
  exact h th H (.ex (.ref (C.cl c)) none, σ) (Pre.refl _) (Keep.refl _ _) S ⟨⟨rfl, .inl ⟨rfl, rfl⟩⟩, rs⟩
/-- try: .. except X: return b -/
theorem wk_tryR {body : List S} {x : Nat} {b : Bool} {K : PySem.W.Frag} (he : PySem.W.exmOne K (.ref (C.cl x)) (.ref (C.cl x)) = some true) : ∀ Dn σ H, tS C cx W (.tryR body x b) Dn σ H →
    tSs C cx (wOnly K (.ref (C.cl x)) (fun _ _ _ D _ H => D.rt (.bl b) H) W Dn) body Dn σ H := fun Dn σ H ⟨th, r, m, S, rs, h⟩ => by
  unfold evS at h
  refine ⟨th, r, m, S, rs, ?_⟩
  revert h
  cases evSs cx body r m with
  | bad => exact fun z => z.elim
  | exn c fs m' => exact fun _ => fun _ _ _ _ _ _ _ => fun _ => trivial
  | ok q m' =>
    obtain ⟨fl, r'⟩ := q
    intro h
    rw [R.bind_ok] at h
    rintro t2 H2 ⟨fv, σ2⟩ p2 k2 S2 ⟨fr, rs2⟩
    cases fl with
    | nx => cases fv <;> first | exact fr.elim | exact h t2 H2 (.nx, σ2) p2 k2 S2 ⟨trivial, rs2⟩
    | bk => cases fv <;> first | exact fr.elim | exact h t2 H2 (.bk, σ2) p2 k2 S2 ⟨trivial, rs2⟩
    | ct => cases fv <;> first | exact fr.elim | exact h t2 H2 (.ct, σ2) p2 k2 S2 ⟨trivial, rs2⟩
    | rt d =>
      cases fv with
      | rt v => exact h t2 H2 (.rt v, σ2) p2 k2 S2 ⟨fr, rs2⟩
      | _ => exact fr.elim
    | ex c fs =>
      cases fv with
      | ex cl d =>
        obtain ⟨rfl, _⟩ := (show XR C t2 H2 c fs cl d from fr)
        simp only at h
        split at h
        · rename_i e
          subst e
          exact ⟨true, he, fun _ _ _ => h t2 H2 (.rt (.bl b), σ2) p2 k2 S2 ⟨RV.bl b, rs2⟩, fun z => nomatch z⟩
        · exact h.elim
      | _ => exact fr.elim
theorem wk_seq {s : S} {ss : List S} : ∀ Dn σ H, tSs C cx W (s :: ss) Dn σ H → tSeq (tS C cx W s) (tSs C cx W ss) Dn σ H := fun Dn σ H ⟨th, r, m, S, rs, h⟩ => by
  unfold evSs at h
  refine ⟨th, r, m, S, rs, (Gd.bind (Rel := fun th' H' b a => SR C th' H' b a) h).imp ?_⟩
  rintro th4 ⟨fv, σ4⟩ H4 m4 ⟨⟨fl, r4⟩, e4, p4, k4, S4, ⟨fr, rs4⟩, g4⟩
  cases fl with
  | nx => cases fv <;> first | exact fr.elim | exact ⟨th4, r4, m4, S4, rs4, g4⟩
  | ct => cases fv <;> first | exact fr.elim | exact st_ct (Dn := Dn) S4 rs4 g4
  | bk => cases fv <;> first | exact fr.elim | exact st_bk (Dn := Dn) S4 rs4 g4
  | rt d => cases fv <;> first | exact fr.elim | exact st_rt (Dn := Dn) S4 rs4 fr g4
  | ex c fs => cases fv <;> first | exact fr.elim | exact Gd.here (b := (FlV.ex _ _, σ4)) S4 ⟨fr, rs4⟩ g4
end
end HR

set_option linter.all false
set_option maxRecDepth 100000
set_option maxHeartbeats 4000000
/-! HR, part 18: the theorem about statements. -/
namespace HR
open PySem L2 PyProof.Rows
section
variable {X : L2.Cx} {C : Ct} {ck : Ck} {cx : HR.Cx} {k : Nat} {sc : Scope} {W : WX}
/-- a def's frame -/
structure GoodS (C : Ct) (ck : Ck) (cx : HR.Cx) (k : Nat) (sc : Scope) (W : WX) (X : L2.Cx) : Prop where
  g : Good C ck cx k sc W X
  fn : X.fn = fun _ => true
  ps : PassesOwn (model X.prog X.w) X.A X.env X.xe
  hs : X.stack = X.env :: X.outer
  hf : X.env.frame = some X.env.locals
theorem GoodS.tr (G : GoodS C ck cx k sc W X) {W' : WX} {pn : List (Addr × Obj)} {xe : Value → Shared → Prop} (tk : Takes (X.tr pn xe) W') (hp : PassesOwn (model X.prog X.w) X.A X.env xe) : GoodS C ck cx k sc W' (X.tr pn xe) := by
  have g := G.g.gx
  exact ⟨⟨⟨g.hK, g.tb, g.fnd, g.fns, g.cls, g.nat, g.mth, g.ini, g.blt, g.con, g.exs⟩, G.g.hN, G.g.hS, G.g.calm, G.g.nd, G.g.room, tk⟩, G.fn, hp, G.hs, G.hf⟩
theorem namesAre2 {is : List Nat} {ts : List Expr} (h : namesAre ck sc is ts = true) (hl : ts.length = 2) : ∃ i j x y px py, is = [i, j] ∧ ts = [.Name x px, .Name y py] ∧ ck.N[i]? = some x ∧ ck.N[j]? = some y ∧ sc.names.lookup x = some .local ∧ sc.names.lookup y = some .local := by
  match is, ts, h, hl with
  | [], [_, _], h, _ => simp [namesAre] at h
  | [i], [e, f], h, _ =>
    unfold namesAre at h
    cases e <;> simp [namesAre] at h
  | i :: j :: is, [e, f], h, _ =>
    unfold namesAre at h
    cases e with
    | Name x px =>
      simp only [Bool.and_eq_true, decide_eq_true_eq] at h
      obtain ⟨⟨h1, h2⟩, h⟩ := h
      unfold namesAre at h
      cases f with
      | Name y py =>
        simp only [Bool.and_eq_true, decide_eq_true_eq] at h
        obtain ⟨⟨h3, h4⟩, h⟩ := h
        cases is with
        | nil => exact ⟨i, j, x, y, px, py, rfl, rfl, h1, h3, h2, h4⟩
        | cons _ _ => simp [namesAre] at h
      | _ => simp at h
    | _ => simp at h
theorem namesAre3 {is : List Nat} {ts : List Expr} (h : namesAre ck sc is ts = true) (hl : ts.length = 3) : ∃ i j l x y z px py pz, is = [i, j, l] ∧ ts = [.Name x px, .Name y py, .Name z pz] ∧ ck.N[i]? = some x ∧ ck.N[j]? = some y ∧ ck.N[l]? = some z ∧ sc.names.lookup x = some .local ∧ sc.names.lookup y = some .local ∧ sc.names.lookup z = some .local := by
  match ts, hl with
  | [e, f, g], _ =>
    cases is with
    | nil => simp [namesAre] at h
    | cons i is =>
      unfold namesAre at h
      cases e with
      | Name x px =>
        simp only [Bool.and_eq_true, decide_eq_true_eq] at h
        obtain ⟨⟨h1, h2⟩, h⟩ := h
        obtain ⟨j, l, y, z, py, pz, rfl, e2, h3, h4, h5, h6⟩ := namesAre2 h rfl
        cases e2
        exact ⟨i, j, l, x, y, z, px, py, pz, rfl, rfl, h1, h3, h4, h2, h5, h6⟩
      | _ => simp at h
theorem swNames2 {x y : Str} {px py : Pos} (h : (swNames sc [.Name x px, .Name y py]).length = 2) : swNames sc [.Name x px, .Name y py] = [x, y] := by
  unfold swNames at h ⊢
  simp only [List.filterMap_cons, List.filterMap_nil] at h ⊢
  split at h <;> split at h <;> simp_all
  all_goals (split at h <;> simp_all)
theorem swNames3 {x y z : Str} {px py pz : Pos} (h : (swNames sc [.Name x px, .Name y py, .Name z pz]).length = 3) : swNames sc [.Name x px, .Name y py, .Name z pz] = [x, y, z] := by
  unfold swNames at h ⊢
  simp only [List.filterMap_cons, List.filterMap_nil] at h ⊢
  split at h <;> split at h <;> split at h <;> simp_all
  all_goals (split at h <;> simp_all)
  all_goals (split at h <;> simp_all)
theorem wk_par2 {i j : Nat} {es : List E} : ∀ Dn σ H, tS C cx W (.par [i, j] es) Dn σ H → tPar i j (tL C cx W es) Dn σ H := fun Dn σ H ⟨th, r, m, S, rs, h⟩ => by
  unfold evS at h
  refine sbL S rs h fun th1 vs H1 m1 ds S1 rs1 rv p kp _ g => ?_
  obtain ⟨q, eq, g2⟩ := gd_of g
  cases rv with
  | nil => simp [setMany] at eq
  | cons r1 rt =>
    cases rt with
    | nil => simp [setMany] at eq
    | cons r2 rt2 =>
      cases rt2 with
      | cons _ _ => simp [setMany] at eq
      | nil =>
        simp only [setMany, Option.map_some, Option.some.injEq] at eq
        subst eq
        exact ⟨_, _, rfl, st_nx S1 ((rs1.set r1 i).set r2 j) g2⟩
theorem wk_par3 {i j l : Nat} {es : List E} : ∀ Dn σ H, tS C cx W (.par [i, j, l] es) Dn σ H → tPar3 i j l (tL C cx W es) Dn σ H := fun Dn σ H ⟨th, r, m, S, rs, h⟩ => by
  unfold evS at h
  refine sbL S rs h fun th1 vs H1 m1 ds S1 rs1 rv p kp _ g => ?_
  obtain ⟨q, eq, g2⟩ := gd_of g
  cases rv with
  | nil => simp [setMany] at eq
  | cons r1 rt =>
    cases rt with
    | nil => simp [setMany] at eq
    | cons r2 rt2 =>
      cases rt2 with
      | nil => simp [setMany] at eq
      | cons r3 rt3 =>
        cases rt3 with
        | cons _ _ => simp [setMany] at eq
        | nil =>
          simp only [setMany, Option.map_some, Option.some.injEq] at eq
          subst eq
          exact ⟨_, _, _, rfl, st_nx S1 (((rs1.set r1 i).set r2 j).set r3 l) g2⟩
theorem wk_aug {i : Nat} {e : E} {op : Operator} {f : Int → Int → Int} (hop : ∀ a b m, binV op (.int a) (.int b) m = .ok (.int (f a b)) m ∨ binV op (.int a) (.int b) m = .bad) : ∀ Dn σ H, tS C cx W (.aug i op e) Dn σ H → tAug i (tE C cx W e) (ipI f) Dn σ H := fun Dn σ H ⟨th, r, m, S, rs, h⟩ => by
  unfold evS at h
  cases hx : r[i]?.bind id with
  | none => rw [hx] at h; exact h.elim
  | some x =>
    rw [hx] at h
    obtain ⟨v, hv, rv⟩ := rs.at_ i x (by
      cases hr : r[i]? with
      | none => rw [hr] at hx; cases hx
      | some o => rw [hr] at hx; simp at hx; rw [hx])
    refine ⟨v, hv, ?_⟩
    refine sbE S rs h fun th1 w H1 m1 d S1 rs1 rw1 p kp g => ?_
    cases rv with
    | int a =>
      cases rw1 with
      | int b =>
        simp only at g
        rcases hop a b m1 with e1 | e1
        · rw [e1] at g
          exact ⟨a, b, rfl, rfl, st_nx S1 (rs1.set (.int _) i) g⟩
        · rw [e1] at g; exact g.elim
      | _ => exact g.elim
    | _ => exact g.elim
/-- name = [..] or {..}, swapped -/
theorem snd_swap (G : GoodS C ck cx k sc W X) {t : T} {e : E} {tg x : Expr} {pos : Pos} (ht : chkT ck sc t tg = true) (he : chkE ck sc e x = true) (hs : swComp sc tg x = true) : PS X (.Assign [tg] x pos) (tS C cx W (.asg t e)) := by
  refine ⟨fun pins s σ H D I h => ?_⟩
  have hkind : X.env.scope.kind = .function := I.ok.kind
  cases tg with
  | Name y py =>
    obtain ⟨i, hi, rfl⟩ : ∃ i, ck.N[i]? = some y ∧ t = .pat (.name i) := by
      cases t with
      | pat p =>
        cases p with
        | name i =>
          simp only [chkT, chkP, vName, Bool.and_eq_true, decide_eq_true_eq] at ht
          exact ⟨i, ht.1, rfl⟩
        | tup ps => simp [chkT, chkP, vTup] at ht
      | fld _ _ => simp [chkT, vAttr] at ht
      | sub _ _ => simp [chkT, vSub] at ht
      | tup _ => simp [chkT, vTup] at ht
    have h1 := wk_asg (W := W) (gT_name (C := C) (cx := cx) (i := i)) D σ H h
    have hi' : X.N[i]? = some y := by rw [G.g.hN]; exact hi
    cases x with
    | ListComp elt gs s2 pp =>
      obtain ⟨hl, hsw⟩ := sw_compL (l := pos.line) G.g.hS hkind hs
      have hl' : X.env.scope.names.lookup y = some .local := by rw [G.g.hS]; exact hl
      cases e with
      | lc own ik its p cond el =>
        unfold chkE at he
        split at he
        · rename_i x' tg' iter ifs z sc2 ev
          obtain ⟨pos', ee⟩ := vLc_eq ev
          cases ee
          simp only [Bool.and_eq_true, decide_eq_true_eq] at he
          obtain ⟨⟨⟨⟨⟨⟨⟨⟨rfl, k1⟩, k2⟩, k3⟩, k4⟩, k5⟩, k6⟩, k7⟩, k8⟩ := he
          have c := chkCm (rest := true) k1 k2 (by simpa using k3) k4 k5 k6 (chkL_len k7)
          have hT : ∀ (s : Shared) (H : Hp) (Ca : Addr) (cl : List (Str × Addr)) (fp : List Addr), PTs (X.blk s H s2 (compEnvC s2 cl Ca X.env) fp) ifs (tTs C cx cond) :=
            fun s H Ca cl fp => pts_cond c.cl c.ln fun e x hx => sndLT cond (G.g.blk s H Ca cl fp) k7 e x hx
          have hE : ∀ (s : Shared) (H : Hp) (Ca : Addr) (cl : List (Str × Addr)) (fp : List Addr), PE (X.blk s H s2 (compEnvC s2 cl Ca X.env) fp) elt (tE C cx WF el) := fun s H Ca cl fp => sndE el (G.g.blk s H Ca cl fp) k8
          obtain ⟨xs, i1, i2⟩ := c.it
          by_cases hik : ik = .items
          · obtain ⟨e', rfl, hpi⟩ := c.pairs hik G.g fun e y hy => (sndL its G.g i2).2 e y (by
              subst hik
              simp only [itArgs] at i1
              split at i1
              · rename_i o m pp es q ev2
                rw [ev2] at hy
                split at i1
                · cases i1; exact hy
                · cases i1
              · cases i1)
            subst hik
            have q := ps_lock (ps_setLc G.g.calm G.g.nd hi' hl' hsw hpi (c.blk G.g) (c.pg G.g) hT hE c.set)
            rw [ownN_map] at q
            exact q.run pins s σ H D I (lc_pairs G.g c.ow (c.pa rfl) rfl σ H _ h1)
          · have q := ps_setLc G.g.calm G.g.nd hi' hl' hsw (sndI G.g i1 hik i2 (fun e x hx => (sndL its G.g i2).2 e x hx) (sndL its G.g i2).1) (c.blk G.g) (c.pg G.g) hT hE c.set
            rw [ownN_map] at q
            exact q.run pins s σ H D I (lc_wk G.g c.ow hik σ H _ h1)
        · cases he
      | _ => simp [chkE, vName, vConst, vBin, vUn, vCmp, vBool, vIf, vTup, vLst, vSub, vSlc, vAttr, vCallN, vCallA, vDc, isEmptyDict] at he
    | DictComp kx vx gs s2 pp =>
      obtain ⟨hl, hsw⟩ := sw_compD (l := pos.line) G.g.hS hkind hs
      have hl' : X.env.scope.names.lookup y = some .local := by rw [G.g.hS]; exact hl
      cases e with
      | dc tk own ik its p cond ke ve =>
        unfold chkE at he
        split at he
        · rename_i x' y' tg' iter ifs z sc2 ev
          obtain ⟨pos', ee⟩ := vDc_eq ev
          cases ee
          simp only [Bool.and_eq_true, decide_eq_true_eq] at he
          obtain ⟨⟨⟨⟨⟨⟨⟨⟨⟨rfl, k1⟩, k2⟩, k3⟩, k4⟩, k5⟩, k6⟩, k7⟩, k8⟩, k9⟩ := he
          have c := chkCm (rest := true) k1 k2 (by simpa using k3) k4 k5 k6 (chkL_len k7)
          have hT : ∀ (s : Shared) (H : Hp) (Ca : Addr) (cl : List (Str × Addr)) (fp : List Addr), PTs (X.blk s H s2 (compEnvC s2 cl Ca X.env) fp) ifs (tTs C cx cond) :=
            fun s H Ca cl fp => pts_cond c.cl c.ln fun e x hx => sndLT cond (G.g.blk s H Ca cl fp) k7 e x hx
          have hK : ∀ (s : Shared) (H : Hp) (Ca : Addr) (cl : List (Str × Addr)) (fp : List Addr), PE (X.blk s H s2 (compEnvC s2 cl Ca X.env) fp) kx (tE C cx WF ke) := fun s H Ca cl fp => sndE ke (G.g.blk s H Ca cl fp) k8
          have hV : ∀ (s : Shared) (H : Hp) (Ca : Addr) (cl : List (Str × Addr)) (fp : List Addr), PE (X.blk s H s2 (compEnvC s2 cl Ca X.env) fp) vx (tE C cx WF ve) := fun s H Ca cl fp => sndE ve (G.g.blk s H Ca cl fp) k9
          have hd0 : d0 tk = .dK [] ∨ d0 tk = .dT [] := by cases tk <;> simp [d0]
          have hun : X.A.units < cLine := G.g.room.units0
          obtain ⟨xs, i1, i2⟩ := c.it
          by_cases hik : ik = .items
          · obtain ⟨e', rfl, hpi⟩ := c.pairs hik G.g fun e y hy => (sndL its G.g i2).2 e y (by
              subst hik
              simp only [itArgs] at i1
              split at i1
              · rename_i o m pp es q ev2
                rw [ev2] at hy
                split at i1
                · cases i1; exact hy
                · cases i1
              · cases i1)
            subst hik
            have q := ps_lock (ps_setDx hd0 hun G.g.calm G.g.nd hi' hl' hsw ⟨hpi, c.blk G.g, c.pg G.g, hT, hK, hV, c.set⟩)
            rw [ownN_map] at q
            exact q.run pins s σ H D I (dc_pairs G.g c.ow (c.pa rfl) rfl σ H _ h1)
          · have q := ps_setDx hd0 hun G.g.calm G.g.nd hi' hl' hsw ⟨sndI G.g i1 hik i2 (fun e x hx => (sndL its G.g i2).2 e x hx) (sndL its G.g i2).1, c.blk G.g, c.pg G.g, hT, hK, hV, c.set⟩
            rw [ownN_map] at q
            exact q.run pins s σ H D I (dc_wk G.g c.ow hik σ H _ h1)
        · cases he
      | _ => simp [chkE, vName, vConst, vBin, vUn, vCmp, vBool, vIf, vTup, vLst, vSub, vSlc, vAttr, vCallN, vCallA, vLc, isEmptyDict] at he
    | _ => simp [swComp] at hs
  | _ => simp [swComp] at hs
mutual
theorem sndS : ∀ (s : S) (X : L2.Cx) (W : WX) (G : GoodS C ck cx k sc W X) (st : Stmt), chkS ck sc s st = true → PS X st (tS C cx W s)
  | .nev, X, W, G, st, h => ps_never.wk fun D σ H ⟨th, r, m, S, rs, g⟩ => by unfold evS at g; exact g.elim
  | .pas, X, W, G, st, h => by
    unfold chkS at h
    split at h
    · exact ps_pass.wk fun D σ H ⟨th, r, m, S, rs, g⟩ => by unfold evS at g; exact st_nx S rs g
    · exact ps_doc.wk fun D σ H ⟨th, r, m, S, rs, g⟩ => by unfold evS at g; exact st_nx S rs g
    · cases h
  | .ex e, X, W, G, st, h => by
    unfold chkS at h
    split at h
    · rename_i x pos
      simp only [Bool.and_eq_true, Bool.not_eq_true'] at h
      refine (ps_expr (sndE e G.g h.2) (sw_plain h.1 none pos.line)).wk fun D σ H ⟨th, r, m, S, rs, g⟩ => ?_
      unfold evS at g
      exact sbE S rs g fun th1 v H1 m1 d S1 rs1 rv p kp g1 => st_nx S1 rs1 g1
    · cases h
  | .asg t e, X, W, G, st, h => by
    unfold chkS at h
    split at h
    · rename_i tg x pos
      simp only [Bool.and_eq_true, Bool.or_eq_true] at h
      obtain ⟨⟨ht, he⟩, h | h⟩ := h
      · exact snd_swap G ht he h.1.2
      · obtain ⟨⟨hc, hn⟩, hst⟩ := h
        refine ⟨fun pins s σ H D I q => ?_⟩
        have hkind : X.env.scope.kind = .function := I.ok.kind
        have hsw : swapsWithSole [tg] x pos.line X.env = pure false := by
          show swapsWith x (some tg) pos.line X.env = pure false
          rcases hc with (hc | hc) | hc
          · exact sw_plain (by simpa using hc) _ _
          · exact sw_notName (by simpa using hc) _
          · exact sw_not G.g.hS hkind hc _
        have h1 : (assignEach [tg] X.env).map (·.2) = [assign tg X.env] := by
          cases tg <;> first | rfl | cases hst
        exact (ps_asg (sndE e G.g he) (sndG G.fn G.g t tg ht) hsw (sw_none G.g.hS hkind hn) h1).run pins s σ H D I (wk_asg (fun _ _ _ _ z => z) D σ H q)
    · cases h
  | .par is es, X, W, G, st, h => by
    unfold chkS at h
    split at h
    · rename_i ts j p vs j2 p2 pos
      simp only [Bool.and_eq_true, decide_eq_true_eq] at h
      obtain ⟨⟨⟨hn, hd⟩, hsw⟩, hl⟩ := h
      have hsw0 := hsw
      simp only [swSome, Bool.and_eq_true, Bool.or_eq_true, beq_iff_eq] at hsw
      obtain ⟨⟨⟨⟨⟨⟨h2, hlen⟩, _⟩, hnl⟩, _⟩, _⟩, _⟩ := hsw
      have hes := (sndL es G.g hl).1
      refine ⟨fun pins s σ H D I q => ?_⟩
      have hkind : X.env.scope.kind = .function := I.ok.kind
      have hw := sw_some (j := j) (j2 := j2) (p := p) (p2 := p2) G.g.hS hkind hsw0
      rcases h2 with h2 | h2
      · obtain ⟨i, jj, x, y, px, py, rfl, rfl, n1, n2, l1, l2⟩ := namesAre2 hn h2
        rw [swNames2 (by simpa using hnl)] at hw
        match vs, hlen, hes, hw with
        | [a, b], _, hes, hw =>
          refine (ps_par G.g.calm G.g.nd (by rw [G.g.hN]; exact n1) (by rw [G.g.hN]; exact n2) (by simpa using hd) (by rw [G.g.hS]; exact l1) (by rw [G.g.hS]; exact l2) hes hw rfl).run pins s σ H D I (wk_par2 D σ H q)
      · obtain ⟨i, jj, l, x, y, z, px, py, pz, rfl, rfl, n1, n2, n3, l1, l2, l3⟩ := namesAre3 hn h2
        rw [swNames3 (by simpa using hnl)] at hw
        have hd' : (i ≠ jj ∧ i ≠ l) ∧ jj ≠ l := by simpa using hd
        match vs, hlen, hes, hw with
        | [a, b, c], _, hes, hw =>
          refine (ps_par3 G.g.calm G.g.nd (by rw [G.g.hN]; exact n1) (by rw [G.g.hN]; exact n2) (by rw [G.g.hN]; exact n3) hd'.1.1 hd'.1.2 hd'.2 (by rw [G.g.hS]; exact l1) (by rw [G.g.hS]; exact l2) (by rw [G.g.hS]; exact l3) hes hw rfl).run pins s σ H D I (wk_par3 D σ H q)
    · cases h
  | .aug i op e, X, W, G, st, h => by
    unfold chkS at h
    split at h
    · rename_i x p o v pos
      simp only [Bool.and_eq_true, decide_eq_true_eq] at h
      obtain ⟨⟨⟨⟨hn, ho⟩, rfl⟩, hop⟩, he⟩ := h
      obtain ⟨o1, o2⟩ := own_fn G.g G.fn x ho
      have hi : X.N[i]? = some x := by rw [G.g.hN]; exact hn
      cases op <;> first | (cases hop; done) | skip
      · exact (ps_aug G.g.nd hi o1 (sndE e G.g he) ip_add o2).wk (wk_aug (f := fun i j => i + j) fun a b m => .inl rfl)
      · exact (ps_aug G.g.nd hi o1 (sndE e G.g he) ip_sub o2).wk (wk_aug (f := fun i j => i - j) fun a b m => .inl rfl)
    · cases h
  | .ifS c a b, X, W, G, st, h => by
    unfold chkS at h
    split at h
    · rename_i x p q pos
      simp only [Bool.and_eq_true] at h
      refine (ps_if (sndT c G.g h.1.1).1 (sndSs a X W G p h.1.2) (sndSs b X W G q h.2)).wk fun D σ H ⟨th, r, m, S, rs, g⟩ => ?_
      unfold evS at g
      refine sbT S rs g fun th1 d H1 m1 S1 rs1 p1 k1 g1 => ?_
      cases d with
      | true => exact ⟨th1, r, m1, S1, rs1, g1⟩
      | false => exact ⟨th1, r, m1, S1, rs1, g1⟩
    · cases h
  | .forS ik its p body, X, W, G, st, h => by
    unfold chkS at h
    split at h
    · rename_i tg iter bd orelse pos
      simp only [Bool.and_eq_true] at h
      obtain ⟨⟨⟨⟨ho, hp⟩, hit⟩, hpa⟩, hb⟩ := h
      have ho : orelse = [] := List.isEmpty_iff.mp ho
      subst ho
      have hbody := sndSs body X W G bd hb
      have pg := pg_pat G.g.hN G.g.nd G.g.calm (own_fn G.g G.fn) p tg hp
      rw [G.g.gx.hK] at pg
      split at hit
      · rename_i xs i1
        have hset : ∀ x, foldedSetIterable iter X.env x = pure x := fun x => set_of (itArgs_set i1) X.env x
        by_cases hik : ik = .items
        · subst hik
          simp only [itArgs] at i1
          split at i1
          · rename_i o mm pp es q ev
            split at i1
            · rename_i hh
              cases i1
              have := vCallA_eq ev
              subst this
              simp only [Bool.and_eq_true, decide_eq_true_eq] at hh
              obtain ⟨⟨⟨⟨rfl, hes⟩, htg⟩, hat⟩, hln⟩ := hh
              have hes : es = [] := List.isEmpty_iff.mp hes
              subst hes
              have hl := chkL_len hit
              match its, hl, hit, hpa with
              | [e], _, hit, hpa =>
                have hpe := (sndL [e] G.g hit).2 e o (by simp)
                cases tg with
                | Tuple elts kk tpos =>
                  exact (ps_lock (ps_for G.ps G.g.calm (pi_pairs hpe (base_of hat _ _ _) hln) pg hbody hset)).wk (wk_forItems (by simpa using hpa) rfl)
                | _ => cases htg
            · cases i1
          · cases i1
        · exact (ps_for G.ps G.g.calm (sndI G.g i1 hik hit (fun e x hx => (sndL its G.g hit).2 e x hx) (sndL its G.g hit).1) pg hbody hset).wk (wk_for hik)
      · cases hit
    · cases h
  | .whl c body, X, W, G, st, h => by
    unfold chkS at h
    split at h
    · rename_i x bd orelse pos
      simp only [Bool.and_eq_true] at h
      have ho : orelse = [] := List.isEmpty_iff.mp h.1.1
      subst ho
      exact (ps_while G.ps (sndT c G.g h.1.2).1 (sndSs body X W G bd h.2)).wk wk_while
    · cases h
  | .ret e, X, W, G, st, h => by
    unfold chkS at h
    split at h
    · refine (ps_ret (sndE e G.g h)).wk fun D σ H ⟨th, r, m, S, rs, g⟩ => ?_
      unfold evS at g
      exact sbE S rs g fun th1 v H1 m1 d S1 rs1 rv p kp g1 => st_rt S1 rs1 rv g1
    · cases e with
      | non =>
        refine ps_retN.wk fun D σ H ⟨th, r, m, S, rs, g⟩ => ?_
        unfold evS evE at g
        exact st_rt S rs .non g
      | _ => cases h
    · cases h
  | .brk, X, W, G, st, h => by
    unfold chkS at h
    split at h
    · exact ps_break.wk fun D σ H ⟨th, r, m, S, rs, g⟩ => by unfold evS at g; exact st_bk S rs g
    · cases h
  | .cnt, X, W, G, st, h => by
    unfold chkS at h
    split at h
    · exact ps_continue.wk fun D σ H ⟨th, r, m, S, rs, g⟩ => by unfold evS at g; exact st_ct S rs g
    · cases h
  | .rse c, X, W, G, st, h => by
    unfold chkS at h
    split at h
    · simp only [Bool.and_eq_true, Bool.not_eq_true', decide_eq_true_eq] at h
      obtain ⟨⟨h1, h2⟩, h3⟩ := h
      have f := G.g.gx.exs c _ (by rw [← G.g.gx.tb]; exact h1)
      exact (ps_raise G.g.calm G.g.tk (pmk_own PySem.F.excBase_ValueError f.q f.g f.k (raises_own f.b f.t) (G.g.gl h2) h3)).wk wk_rse
    · cases h
  | .tryR body x b, X, W, G, st, h => by
    unfold chkS at h
    split at h
    · rename_i bd y _ b2 _ _ _ _ _
      simp only [Bool.and_eq_true, Bool.not_eq_true', decide_eq_true_eq, beq_iff_eq] at h
      obtain ⟨⟨⟨⟨h1, h2⟩, h3⟩, rfl⟩, h5⟩ := h
      have f := G.g.gx.exs x _ (by rw [← G.g.gx.tb]; exact h1)
      refine ⟨fun pins s σ H D I q => ?_⟩
      exact (ps_try_only (tb := fun W => tSs C cx W body) (ts := fun _ _ _ D _ H => D.rt (.bl b) H) G.hs G.hf ⟨G.g.gl h2, h3, .inl f.g⟩ G.g.tk (fun W' pn xe tk hp => sndSs body _ _ (G.tr tk hp) bd h5) (fun a oe cls d pn _ _ => pss_one (ps_ret pe_bl))).run pins s σ H D I (wk_tryR f.e D σ H q)
    · cases h
termination_by s => sizeOf s
theorem sndSs : ∀ (ss : List S) (X : L2.Cx) (W : WX) (G : GoodS C ck cx k sc W X) (sts : List Stmt), chkSs ck sc ss sts = true → PSs X sts (tSs C cx W ss)
  | [], X, W, G, sts, h => by
    cases sts with
    | cons _ _ => simp [chkSs] at h
    | nil => exact pss_nil.wk fun D σ H ⟨th, r, m, S, rs, g⟩ => by unfold evSs at g; exact st_nx S rs g
  | s :: ss, X, W, G, sts, h => by
    cases sts with
    | nil => simp [chkSs] at h
    | cons st sts =>
      simp only [chkSs, Bool.and_eq_true] at h
      exact (pss_cons (sndS s X W G st h.1) (sndSs ss X W G sts h.2)).wk wk_seq
termination_by ss => sizeOf ss
end
end
end HR

set_option linter.all false
set_option maxRecDepth 100000
set_option maxHeartbeats 4000000
/-! HR, part 19: defs; the whole program; the end. -/
namespace HR
open PySem L2 PyProof.Rows

/-- a def of the text -/
structure Df where
  x : Str
  qual : Str
  st : Stmt
  N : List Str
  ps : List Str
  F : Fn
def scOk (N P : List Str) (sc : Scope) : Bool :=
  (match sc.kind with | .function => true | _ => false) && !sc.isCoroutine && !sc.isGenerator && decide N.Nodup && decide (N.take P.length = P) && P.all (fun x => decide (sc.names.lookup x = some .local) || decide (sc.names.lookup x = some .cell)) && sc.names.all (fun y => match y.2 with | .free => false | _ => true)
theorem scOk_is {N P : List Str} {sc : Scope} (h : scOk N P sc = true) : FnScope N P sc := by
  unfold scOk at h
  simp only [Bool.and_eq_true, Bool.not_eq_true', decide_eq_true_eq, List.all_eq_true, Bool.or_eq_true] at h
  obtain ⟨⟨⟨⟨⟨⟨h1, h2⟩, h3⟩, h4⟩, h5⟩, h6⟩, h7⟩ := h
  refine ⟨?_, h2, h3, h4, h5, h6, fun y hy z => ?_⟩
  · split at h1
    · assumption
    · cases h1
  · have := h7 y hy
    rw [z] at this
    cases this
def dfOk (tb : Tab) (gcs : List (Str × Int)) (d : Df) : Bool :=
  scOk d.N d.ps (defScope d.st) && decide (d.F.np = d.ps.length) && decide (d.F.ns = d.N.length) && chkSs ⟨tb, d.N, gcs⟩ (defScope d.st) d.F.body (defBody d.st)
/-- the def number f stands at a -/
def At (K : PySem.W.Frag) (ds : List (Nat × Df)) (f : Nat) (a : Addr) (fd : FuncData) (ps : List Str) : Prop := ∃ d, ds.lookup f = some d ∧ Fun K d.x d.qual d.st a fd ∧ ps = d.ps
/-- what the top has made, as the defs ask for it -/
structure Wd (C : Ct) (ds : List (Nat × Df)) (gcs : List (Str × Int)) (meth : Nat → Nat → Option Nat) (init : Nat → Option Nat) (mg : Str → Option Value) : Prop where
  fnd : (C.tb.flds.map (·.2)).Nodup
  fns : ∀ (f : Nat) (x : Str), C.tb.fns.lookup f = some x → ∃ a fd ps, mg x = some (.ref a) ∧ PySem.W.keepIn C.K (.ref a) = true ∧ Binds C.K fd ps [] ∧ At C.K ds f a fd ps
  cls : ∀ (c : Nat) (x : Str), C.tb.cls.lookup c = some x → mg x = some (.ref (C.cl c)) ∧ Cls C.K (C.cl c)
  nat : ∀ (c : Nat) (x : Str) (f : Nat) (n : Str), C.tb.cls.lookup c = some x → C.tb.flds.lookup f = some n → NoAttr C.K (C.cl c) n
  mth : ∀ (c n f : Nat) (x : Str), meth c n = some f → C.tb.mts.lookup n = some x → ∃ a fd ps, Meth C.K (C.cl c) x a ∧ Binds C.K fd ps [] ∧ At C.K ds f a fd ps
  ini : ∀ (c f : Nat), init c = some f → ∃ a fd ps, Mk C.K (C.cl c) a ∧ Binds C.K fd ps [] ∧ At C.K ds f a fd ps
  blt : ∀ x ∈ bltNames, mg x = none
  con : ∀ x i, (x, i) ∈ gcs → ∃ t, mg x = some (.int i t)
  exs : ∀ (c : Nat) (x : Str), C.tb.exs.lookup c = some x → ExF C.K mg (C.cl c) x
theorem exm_self {K : PySem.W.Frag} {S : Addr} (h1 : PySem.W.subIn K (.ref S) (.type "BaseException") = some true) (h2 : PySem.W.isClsIn K S = true) (h3 : PySem.W.typeIn K (.ref S) = some (.type "type")) (h4 : PySem.W.subIn K (.ref S) (.ref S) = some true) :
    PySem.W.exmOne K (.ref S) (.ref S) = some true := by
  have e2 : ((PySem.W.clsIn K S).isSome && PySem.W.typeIn K (.ref S) == some (.type "type")) = true := by
    rw [show (PySem.W.clsIn K S).isSome = true from h2, h3] <;> rfl
  show (if (PySem.W.subIn K (.ref S) (.type "BaseException") == some true) = true then (if ((PySem.W.clsIn K S).isSome && PySem.W.typeIn K (.ref S) == some (.type "type")) = true then PySem.W.subIn K (.ref S) (.ref S) else none) else none) = some true
  rw [if_pos (by rw [h1] <;> rfl), if_pos e2]
  exact h4
section
variable {P : Program} {w : World} {mg : Str → Option Value} {base : Heap} {C : Ct} {ds : List (Nat × Df)} {gcs : List (Str × Int)} {meth : Nat → Nat → Option Nat} {init : Nat → Option Nat}
def prog (ds : List (Nat × Df)) (meth : Nat → Nat → Option Nat) (init : Nat → Option Nat) : Prog := ⟨fun f => (ds.lookup f).map (·.F), meth, init⟩
def cxN (ds : List (Nat × Df)) (meth : Nat → Nat → Option Nat) (init : Nat → Option Nat) (n : Nat) : HR.Cx := ⟨callN (prog ds meth init) n, meth, init⟩
theorem gx_of {ck : Ck} {k : Nat} {X : L2.Cx} {n : Nat} (wd : Wd C ds gcs meth init X.mg) (hK : X.K = C.K) (htb : ck.tb = C.tb) (hg : ck.gcs = gcs)
    (all : ∀ f a fd ps, At C.K ds f a fd ps → FnOk X.prog X.w X.K X.mg X.base (L2.CX X.prog X.w) k a fd ps (spF C (cxN ds meth init n) f)) : Gx C ck (cxN ds meth init n) k X where
  hK := hK
  tb := htb
  fnd := wd.fnd
  fns := fun f x h => let ⟨a, fd, ps, h1, h2, h3, h4⟩ := wd.fns f x h; ⟨a, fd, ps, h1, by rw [hK]; exact h2, by rw [hK]; exact h3, all f a fd ps h4⟩
  cls := fun c x h => let ⟨h1, h2⟩ := wd.cls c x h; ⟨h1, by rw [hK]; exact h2⟩
  nat := fun c x f n h1 h2 => by rw [hK]; exact wd.nat c x f n h1 h2
  mth := fun c n f x h1 h2 => let ⟨a, fd, ps, h3, h4, h5⟩ := wd.mth c n f x h1 h2; ⟨a, fd, ps, by rw [hK]; exact h3, by rw [hK]; exact h4, all f a fd ps h5⟩
  ini := fun c f h => let ⟨a, fd, ps, h3, h4, h5⟩ := wd.ini c f h; ⟨a, fd, ps, by rw [hK]; exact h3, by rw [hK]; exact h4, all f a fd ps h5⟩
  blt := wd.blt
  con := fun x i h => wd.con x i (by rw [← hg]; exact h)
  exs := fun c x h => by rw [hK]; exact wd.exs c x h
theorem rs_start {th : List Addr} {H : Hp} {vs : List V} {es : List D} (rv : RVs C.K th H vs es) (N : List Str) (n : Nat) (hn : n = N.length) : RS C th H (L2.start N vs) (startS n es) := by
  have ln := rv.length
  refine ⟨by simp [L2.start, startS, ln, hn], fun i d h => ?_⟩
  unfold startS at h
  unfold L2.start
  by_cases hi : i < es.length
  · rw [List.getElem?_append_left (by simpa using hi), List.getElem?_map] at h
    rw [List.getElem?_append_left (by simp; omega), List.getElem?_map]
    cases e : es[i]? with
    | none => rw [e] at h; cases h
    | some d' =>
      rw [e] at h
      cases h
      obtain ⟨v, hv, r⟩ := rv.get e
      exact ⟨v, by rw [hv]; rfl, r⟩
  · rw [List.getElem?_append_right (by simp; omega), List.getElem?_replicate] at h
    split at h
    · cases h
    · cases h
theorem all_ok (wd : Wd C ds gcs meth init mg) (hd : ∀ f d, ds.lookup f = some d → dfOk C.tb gcs d = true) : ∀ n f a fd ps, At C.K ds f a fd ps → FnOk P w C.K mg base (L2.CX P w) (2 * n) a fd ps (spF C (cxN ds meth init n) f)
  | 0, f, a, fd, ps, h => ⟨fun vs H Q E ⟨th, m, es, S, rv, g⟩ => (g : False).elim, fun A outer s H args us vs Q E hr e0 hb r ⟨th, m, es, S, rv, g⟩ => (g : False).elim⟩
  | n + 1, f, a, fd, ps, h => by
    obtain ⟨d, hf, F, rfl⟩ := h
    have ok := hd f d hf
    simp only [dfOk, Bool.and_eq_true, decide_eq_true_eq] at ok
    obtain ⟨⟨⟨o1, o2⟩, o3⟩, o4⟩ := ok
    have sc := scOk_is o1
    have hF : (prog ds meth init).fns f = some d.F := by
      show (ds.lookup f).map (·.F) = _
      rw [hf]; rfl
    have step : ∀ {th : List Addr} {H : Hp} {m : Mem} {vs : List V} {es : List D} {Q : VK} {E : XK}, RVs C.K th H vs es → GV C th H (callN (prog ds meth init) (n + 1) f es m) Q E →
        es.length = d.F.np ∧ GV C th H ((evSs (cxN ds meth init n) d.F.body (startS d.F.ns es) m).bind finish) Q E := fun rv g => by
      unfold callN at g
      rw [hF] at g
      simp only at g
      split at g
      · rename_i hl
        exact ⟨hl, g⟩
      · exact g.elim
    have := Fun.okX (P := P) (w := w) (mg := mg) (base := base) (k := 2 * n + 1) (sp := spF C (cxN ds meth init (n + 1)) f) F sc (fun vs H Q E ⟨th, m, es, S, rv, g⟩ => ?_) (fun cdv A outer s H vs Q E hr ⟨th, m, es, S, rv, g⟩ => ?_)
    · exact this
    · obtain ⟨hl, _⟩ := step rv g
      rw [rv.length, hl, o2]
    · obtain ⟨hl, g2⟩ := step rv g
      let X := cxOf (L2.CX P w) P w C.K mg base d.N d.qual (defScope d.st) a cdv A outer s H E
      have gx : Gx C ⟨C.tb, d.N, gcs⟩ (cxN ds meth init n) (2 * n) X := gx_of (X := X) wd rfl rfl rfl fun f a fd ps h => all_ok wd hd n f a fd ps h
      have G : Good C ⟨C.tb, d.N, gcs⟩ (cxN ds meth init n) (2 * n) (defScope d.st) (fun cl dd _ H' => E cl dd H') X := ⟨gx, rfl, rfl, rfl, sc.nd, hr, takes_of rfl rfl rfl rfl⟩
      have GS : GoodS C ⟨C.tb, d.N, gcs⟩ (cxN ds meth init n) (2 * n) (defScope d.st) (fun cl dd _ H' => E cl dd H') X := ⟨G, rfl, passes_of rfl, rfl, rfl⟩
      refine ⟨_, sndSs d.F.body _ _ GS _ o4, th, startS d.F.ns es, m, S, rs_start rv d.N d.F.ns o3, ?_⟩
      -- the end of the body is the end of the call
      revert g2
      cases evSs (cxN ds meth init n) d.F.body (startS d.F.ns es) m with
      | bad => exact fun z => z.elim
      | exn c fs m' => exact fun _ => fun _ _ _ _ _ _ _ => fun _ => trivial
      | ok q m' =>
        obtain ⟨fl, r'⟩ := q
        intro g2
        rw [R.bind_ok] at g2
        rintro t2 H2 ⟨fv, σ2⟩ p2 k2 S2 ⟨fr, rs2⟩
        cases fl with
        | nx =>
          cases fv <;> first | exact fr.elim | skip
          have g3 : GV C th H (.ok .non m') Q E := g2
          exact g3 t2 H2 .non p2 k2 S2 .non
        | rt dv =>
          cases fv with
          | rt v =>
            have g3 : GV C th H (.ok dv m') Q E := g2
            exact g3 t2 H2 v p2 k2 S2 fr
          | _ => exact fr.elim
        | ex c fs =>
          cases fv with
          | ex cl dd =>
            have g3 : GV C th H (.exn c fs m') Q E := g2
            exact g3 t2 H2 cl dd p2 k2 S2 fr
          | _ => exact fr.elim
        | bk => exact g2.elim
        | ct => exact g2.elim
theorem lkD_mem {l : List (Nat × Df)} {f : Nat} {d : Df} (h : l.lookup f = some d) : (f, d) ∈ l := by
  induction l with
  | nil => cases h
  | cons p r ih =>
    obtain ⟨k, v⟩ := p
    by_cases e : f = k
    · subst e
      simp [List.lookup] at h
      subst h; exact List.mem_cons_self
    · have e2 : (f == k) = false := by simpa using e
      simp [List.lookup, e2] at h
      exact List.mem_cons_of_mem _ (ih h)
/-- the law's own promise: True for every script -/
def spL (K : PySem.W.Frag) : Sp := fun vs H Q _ => ∃ (a : Addr) (ns : List Int), vs = [.ref a] ∧ ns.length ≤ 63 ∧ SqS K H a (ns.map V.int) ∧ ∀ H', Q (.bl true) H'
theorem law_sp {n f : Nat} (h : ∀ ns : List Int, ns.length ≤ 63 → ∃ m, callN (prog ds meth init) n f [.scr ns] [] = .ok (.bl true) m) :
    ∀ vs H Q E, spL C.K vs H Q E → spF C (cxN ds meth init n) f vs H Q E := by
  rintro vs H Q E ⟨a, ns, rfl, hl, hs, hQ⟩
  obtain ⟨m, e⟩ := h ns hl
  refine ⟨[], [], [.scr ns], ⟨rfl, List.nodup_nil, fun k o h => by simp at h⟩, .cons (.scr hs) .nil, ?_⟩
  show GV C [] H (callN (prog ds meth init) n f [.scr ns] []) _ _
  rw [e]
  intro th' H' v p k S r
  cases r
  exact hQ H'
theorem sqS_of {K : PySem.W.Frag} {H : Hp} {a : Addr} {xs : List V} (hO : Only H) (h : SqL K H a xs) : SqS K H a xs := by
  rcases h with (h | ⟨o, h⟩) | h
  · rcases hO a with z | ⟨o, ys, z⟩
    · rw [h] at z; cases z
    · rw [h] at z; cases z
  · exact .inl ⟨o, h⟩
  · exact .inr h
end
end HR

set_option linter.all false
set_option maxRecDepth 100000
/-! HR: the bodies of the functions, numbered for all laws alike. -/
namespace HR
open PySem L2
/-- is_integer -/
def fn9 : Fn := ⟨3, 3, [(.ret (.and (.isi (.var 0) .int) (.and (.not (.isi (.var 0) .bool)) (.cmp2 .LtE .LtE (.var 1) (.var 0) (.var 2)))))]⟩
/-- is_rope -/
def fn10 : Fn := ⟨2, 5, [(.ifS (.or (.not (.isi (.var 1) .tuple)) (.cmp .NotEq (.blt .len [(.var 1)]) (.int 3))) [(.ret (.bl false))] []), (.asg (.pat (.tup [(.name 2), (.name 3), (.name 4)])) (.var 1)), (.ifS (.or (.not (.call 9 [(.var 2), (.int 0), (.bin .Sub (.var 0) (.int 1))])) (.or (.not (.call 9 [(.var 3), (.int 0), (.bin .Sub (.var 0) (.int 1))])) (.cmp .Eq (.var 2) (.var 3)))) [(.ret (.bl false))] []), (.ret (.call 9 [(.var 4), (.neg (.gint "MAX_LENGTH" 99)), (.gint "MAX_LENGTH" 99)]))]⟩
/-- check_fleet -/
def fn11 : Fn := ⟨1, 5, [(.ifS (.or (.not (.isi (.var 0) .tuple)) (.cmp .NotEq (.blt .len [(.var 0)]) (.int 2))) [.nev] []), (.asg (.pat (.tup [(.name 1), (.name 2)])) (.var 0)), (.ifS (.not (.call 9 [(.var 1), (.int 1), (.gint "MAX_BARGES" 8)])) [.nev] []), (.ifS (.not (.isi (.var 2) .tuple)) [.nev] []), (.forS .enum [(.var 2)] (.tup [(.name 3), (.name 4)]) [(.ifS (.or (.cmp .Eq (.var 3) (.gint "MAX_ROPES" 40)) (.not (.call 10 [(.var 1), (.var 4)]))) [.nev] [])])]⟩
/-- check_rope -/
def fn12 : Fn := ⟨2, 2, [(.ifS (.not (.call 10 [(.idx (.var 0) (.int 0)), (.var 1)])) [(.rse 2)] [])]⟩
/-- ChainTable.__init__ -/
def fn13 : Fn := ⟨2, 7, [(.asg (.tup [(.fld (.var 0) 7), (.fld (.var 0) 6)]) (.var 1)), (.asg (.fld (.var 0) 5) (.dc true [6] .rng [(.fld (.var 0) 7)] (.name 6) [] (.tup [(.var 6), (.var 6)]) (.int 0))), (.forS .any [(.fld (.var 0) 6)] (.tup [(.name 3), (.name 4), (.name 5)]) [(.ex (.meth 1 (.var 0) [(.tup [(.var 3), (.var 4)]), (.var 5)]))]), (.forS .rng [(.fld (.var 0) 7)] (.name 2) [(.ex (.meth 2 (.var 0) [(.var 2)]))])]⟩
/-- ChainTable.offer -/
def fn14 : Fn := ⟨3, 3, [(.ifS (.or (.cmp .NotIn (.var 1) (.fld (.var 0) 5)) (.cmp .Lt (.var 2) (.idx (.fld (.var 0) 5) (.var 1)))) [(.asg (.sub (.fld (.var 0) 5) (.var 1)) (.var 2))] [])]⟩
/-- ChainTable.extend -/
def fn15 : Fn := ⟨2, 10, [(.asg (.pat (.name 2)) (.dc false [5, 4, 8] .items [(.fld (.var 0) 5)] (.tup [(.tup [(.name 4), (.name 8)]), (.name 5)]) [(.cmp .Eq (.var 8) (.var 1))] (.var 4) (.var 5))), (.asg (.pat (.name 3)) (.dc false [5, 9, 6] .items [(.fld (.var 0) 5)] (.tup [(.tup [(.name 9), (.name 6)]), (.name 5)]) [(.cmp .Eq (.var 9) (.var 1))] (.var 6) (.var 5))), (.forS .items [(.var 2)] (.tup [(.name 4), (.name 5)]) [(.forS .items [(.var 3)] (.tup [(.name 6), (.name 7)]) [(.ex (.meth 1 (.var 0) [(.tup [(.var 4), (.var 6)]), (.bin .Add (.var 5) (.var 7))]))])])]⟩
/-- ChainTable.length -/
def fn16 : Fn := ⟨3, 3, [(.ret (.bm .get2 (.fld (.var 0) 5) [(.tup [(.var 1), (.var 2)]), .non]))]⟩
/-- ChainTable.is_contradictory -/
def fn17 : Fn := ⟨1, 2, [(.ret (.cmp .NotEq (.lc [1] .rng [(.fld (.var 0) 7)] (.name 1) [(.cmp .Lt (.idx (.fld (.var 0) 5) (.tup [(.var 1), (.var 1)])) (.int 0))] (.var 1)) (.lst [])))]⟩
/-- consistent_table -/
def fn18 : Fn := ⟨1, 2, [(.asg (.pat (.name 1)) (.make 14 [(.var 0)])), (.ifS (.meth 4 (.var 1) []) [(.rse 4)] []), (.ret (.var 1))]⟩
/-- chain_length -/
def fn19 : Fn := ⟨3, 4, [(.ex (.call 11 [(.var 0)])), (.forS .any [(.tup [(.var 1), (.var 2)])] (.name 3) [(.ifS (.not (.call 9 [(.var 3), (.int 0), (.bin .Sub (.idx (.var 0) (.int 0)) (.int 1))])) [(.rse 3)] [])]), (.ret (.meth 3 (.call 18 [(.var 0)]) [(.var 1), (.var 2)]))]⟩
/-- find_circle -/
def fn20 : Fn := ⟨1, 13, [(.ex (.call 11 [(.var 0)])), (.asg (.pat (.tup [(.name 4), (.name 5)])) (.var 0)), (.asg (.pat (.name 1)) (.dc false [3] .rng [(.var 4)] (.name 3) [] (.var 3) (.tup [(.int 0), (.tup [])]))), (.forS .rng [(.var 4)] (.name 2) [(.asg (.pat (.name 6)) (.blt .dict [(.var 1)])), (.forS .enum [(.var 5)] (.tup [(.name 8), (.tup [(.name 10), (.name 11), (.name 12)])]) [(.asg (.pat (.name 9)) (.bin .Add (.idx (.idx (.var 1) (.var 10)) (.int 0)) (.var 12))), (.ifS (.cmp .Lt (.var 9) (.idx (.idx (.var 6) (.var 11)) (.int 0))) [(.asg (.sub (.var 6) (.var 11)) (.tup [(.var 9), (.bin .Add (.idx (.idx (.var 1) (.var 10)) (.int 1)) (.tup [(.var 8)]))]))] [])]), (.asg (.pat (.name 1)) (.var 6))]), (.forS .rng [(.var 4)] (.name 3) [(.asg (.pat (.name 7)) (.call 21 [(.var 5), (.idx (.idx (.var 1) (.var 3)) (.int 1))])), (.ifS (.cmp .NotEq (.var 7) (.lst [])) [(.ret (.var 7))] [])]), (.ret .non)]⟩
/-- closed_part -/
def fn21 : Fn := ⟨2, 6, [(.forS .rng [(.blt .len [(.var 1)])] (.name 2) [(.forS .rng [(.var 2), (.blt .len [(.var 1)])] (.name 3) [(.asg (.pat (.name 4)) (.slc (.var 1) [(.var 2)] [(.bin .Add (.var 3) (.int 1))])), (.ifS (.and (.cmp .Eq (.idx (.idx (.var 0) (.idx (.var 4) (.int 0))) (.int 0)) (.idx (.idx (.var 0) (.idx (.var 4) (.neg (.int 1)))) (.int 1))) (.cmp .Lt (.blt .sum [(.lc [5] .any [(.var 4)] (.name 5) [] (.idx (.idx (.var 0) (.var 5)) (.int 2)))]) (.int 0))) [(.ret (.blt .list [(.var 4)]))] [])])]), (.ret (.lst []))]⟩
/-- is_circle -/
def fn22 : Fn := ⟨2, 5, [(.ex (.call 11 [(.var 0)])), (.asg (.pat (.name 2)) (.idx (.var 0) (.int 1))), (.ifS (.or (.not (.isi (.var 1) .list)) (.cmp .Eq (.var 1) (.lst []))) [(.ret (.bl false))] []), (.ifS (.not (.blt .all [(.lc [3] .any [(.var 1)] (.name 3) [] (.call 9 [(.var 3), (.int 0), (.bin .Sub (.blt .len [(.var 2)]) (.int 1))]))])) [(.ret (.bl false))] []), (.forS .zip [(.var 1), (.bin .Add (.slc (.var 1) [(.int 1)] []) (.slc (.var 1) [] [(.int 1)]))] (.tup [(.name 3), (.name 4)]) [(.ifS (.cmp .NotEq (.idx (.idx (.var 2) (.var 3)) (.int 1)) (.idx (.idx (.var 2) (.var 4)) (.int 0))) [(.ret (.bl false))] [])]), (.ret (.cmp .Lt (.blt .sum [(.lc [3] .any [(.var 1)] (.name 3) [] (.idx (.idx (.var 2) (.var 3)) (.int 2)))]) (.int 0)))]⟩
/-- check_positions -/
def fn23 : Fn := ⟨2, 4, [(.ifS (.not (.isi (.var 1) .tuple)) [.nev] []), (.forS .enum [(.var 1)] (.tup [(.name 2), (.name 3)]) [(.ifS (.or (.cmp .Eq (.var 2) (.idx (.var 0) (.int 0))) (.not (.call 9 [(.var 3), (.neg (.gint "MAX_POSITION" 9999)), (.gint "MAX_POSITION" 9999)]))) [.nev] [])]), (.ifS (.cmp .Lt (.blt .len [(.var 1)]) (.idx (.var 0) (.int 0))) [.nev] [])]⟩
/-- slacks -/
def fn24 : Fn := ⟨2, 5, [(.ret (.lc [2, 3, 4] .any [(.idx (.var 0) (.int 1))] (.tup [(.name 2), (.name 3), (.name 4)]) [] (.bin .Add (.bin .Sub (.var 4) (.idx (.var 1) (.var 2))) (.idx (.var 1) (.var 3)))))]⟩
/-- check_valid -/
def fn25 : Fn := ⟨2, 4, [(.ex (.call 23 [(.var 0), (.var 1)])), (.forS .enum [(.call 24 [(.var 0), (.var 1)])] (.tup [(.name 2), (.name 3)]) [(.ifS (.cmp .Lt (.var 3) (.int 0)) [.nev] [])])]⟩
/-- broken_ropes -/
def fn26 : Fn := ⟨2, 4, [(.ex (.call 11 [(.var 0)])), (.ex (.call 23 [(.var 0), (.var 1)])), (.ret (.lc [2, 3] .enum [(.call 24 [(.var 0), (.var 1)])] (.tup [(.name 2), (.name 3)]) [(.cmp .Lt (.var 3) (.int 0))] (.var 2)))]⟩
/-- drag -/
def fn28 : Fn := ⟨4, 8, [(.asg (.pat (.name 4)) (.lst [])), (.forS .enum [(.var 1)] (.tup [(.name 5), (.name 6)]) [(.asg (.pat (.name 7)) (.meth 3 (.var 0) [(.var 2), (.var 5)])), (.ex (.bm .append (.var 4) [(.ite (.cmp .Is (.var 7) .non) (.var 6) (.blt .max2 [(.var 6), (.bin .Sub (.var 3) (.var 7))]))]))]), (.ret (.blt .tuple [(.var 4)]))]⟩
/-- is_haul -/
def fn29 : Fn := ⟨2, 2, [(.ifS (.or (.not (.isi (.var 1) .tuple)) (.or (.cmp .NotEq (.blt .len [(.var 1)]) (.int 2)) (.not (.call 9 [(.idx (.var 1) (.int 0)), (.int 0), (.bin .Sub (.blt .len [(.var 0)]) (.int 1))])))) [(.ret (.bl false))] []), (.ret (.call 9 [(.idx (.var 1) (.int 1)), (.idx (.var 0) (.idx (.var 1) (.int 0))), (.gint "MAX_POSITION" 9999)]))]⟩
/-- check_start -/
def fn30 : Fn := ⟨2, 2, [(.ex (.call 11 [(.var 0)])), (.ex (.call 25 [(.var 0), (.var 1)])), (.ret (.call 18 [(.var 0)]))]⟩
/-- haul_steps -/
def fn31 : Fn := ⟨3, 6, [(.ifS (.not (.isi (.var 2) .list)) [.nev] []), (.asg (.pat (.name 3)) (.lst [(.var 1)])), (.forS .enum [(.var 2)] (.tup [(.name 4), (.name 5)]) [(.ifS (.not (.call 29 [(.idx (.var 3) (.neg (.int 1))), (.var 5)])) [.nev] []), (.ex (.bm .append (.var 3) [(.call 28 [(.var 0), (.idx (.var 3) (.neg (.int 1))), (.idx (.var 5) (.int 0)), (.idx (.var 5) (.int 1))])]))]), (.ret (.var 3))]⟩
/-- haul -/
def fn32 : Fn := ⟨4, 5, [(.asg (.pat (.name 4)) (.call 30 [(.var 0), (.var 1)])), (.ret (.idx (.call 31 [(.var 4), (.var 1), (.lst [(.tup [(.var 2), (.var 3)])])]) (.neg (.int 1))))]⟩
/-- haul_all -/
def fn33 : Fn := ⟨3, 4, [(.asg (.pat (.name 3)) (.call 30 [(.var 0), (.var 1)])), (.ret (.idx (.call 31 [(.var 3), (.var 1), (.var 2)]) (.neg (.int 1))))]⟩
/-- total_distance -/
def fn34 : Fn := ⟨3, 8, [(.asg (.pat (.name 3)) (.call 30 [(.var 0), (.var 1)])), (.asg (.pat (.name 4)) (.call 31 [(.var 3), (.var 1), (.var 2)])), (.ret (.blt .sum [(.lc [5, 6, 7] .zip [(.var 2), (.var 4)] (.tup [(.tup [(.name 6), (.name 7)]), (.name 5)]) [] (.bin .Sub (.var 7) (.idx (.var 5) (.var 6))))]))]⟩
/-- check_wishes -/
def fn35 : Fn := ⟨2, 4, [(.ifS (.not (.isi (.var 1) .tuple)) [.nev] []), (.forS .enum [(.var 1)] (.tup [(.name 2), (.name 3)]) [(.ifS (.or (.cmp .Eq (.var 2) (.idx (.var 0) (.int 0))) (.not (.or (.cmp .Is (.var 3) .non) (.call 9 [(.var 3), (.neg (.gint "MAX_POSITION" 9999)), (.gint "MAX_POSITION" 9999)])))) [.nev] [])]), (.ifS (.cmp .Lt (.blt .len [(.var 1)]) (.idx (.var 0) (.int 0))) [.nev] [])]⟩
/-- least_positions -/
def fn36 : Fn := ⟨3, 7, [(.ex (.call 11 [(.var 0)])), (.ex (.call 25 [(.var 0), (.var 1)])), (.ex (.call 35 [(.var 0), (.var 2)])), (.par [3, 4] [(.call 18 [(.var 0)]), (.var 1)]), (.forS .enum [(.var 2)] (.tup [(.name 5), (.name 6)]) [(.ifS (.and (.cmp .IsNot (.var 6) .non) (.cmp .Gt (.var 6) (.idx (.var 4) (.var 5)))) [(.asg (.pat (.name 4)) (.call 28 [(.var 3), (.var 4), (.var 5), (.var 6)]))] [])]), (.ret (.var 4))]⟩
/-- count_positions -/
def fn48 : Fn := ⟨2, 7, [(.ex (.call 11 [(.var 0)])), (.ex (.call 18 [(.var 0)])), (.ifS (.or (.cmp .Gt (.idx (.var 0) (.int 0)) (.gint "MAX_COUNTED" 5)) (.not (.call 9 [(.var 1), (.int 0), (.gint "MAX_LIMIT" 12)]))) [(.rse 13)] []), (.asg (.pat (.name 2)) (.lst [(.tup [])])), (.forS .rng [(.idx (.var 0) (.int 0))] (.name 3) [(.asg (.pat (.name 4)) (.lst [])), (.forS .any [(.var 2)] (.name 5) [(.ex (.bm .extend (.var 4) [(.lc [6] .rng [(.bin .Add (.var 1) (.int 1))] (.name 6) [(.call 49 [(.var 0), (.var 5), (.var 6)])] (.bin .Add (.var 5) (.tup [(.var 6)])))]))]), (.asg (.pat (.name 2)) (.var 4))]), (.ret (.blt .len [(.var 2)]))]⟩
/-- is_possible -/
def fn49 : Fn := ⟨3, 7, [(.asg (.pat (.name 3)) (.bin .Add (.var 1) (.tup [(.var 2)]))), (.forS .any [(.idx (.var 0) (.int 1))] (.tup [(.name 4), (.name 5), (.name 6)]) [(.ifS (.and (.cmp .Eq (.blt .max2 [(.var 4), (.var 5)]) (.blt .len [(.var 1)])) (.cmp .Gt (.bin .Sub (.idx (.var 3) (.var 4)) (.idx (.var 3) (.var 5))) (.var 6))) [(.ret (.bl false))] [])]), (.ret (.bl true))]⟩
/-- implies -/
def fn50 : Fn := ⟨2, 6, [(.asg (.pat (.tup [(.name 3), (.name 4), (.name 5)])) (.var 1)), (.asg (.pat (.name 2)) (.meth 3 (.var 0) [(.var 3), (.var 4)])), (.ret (.and (.cmp .IsNot (.var 2) .non) (.cmp .LtE (.var 2) (.var 5))))]⟩
/-- implied -/
def fn51 : Fn := ⟨2, 2, [(.ex (.call 11 [(.var 0)])), (.ex (.call 12 [(.var 0), (.var 1)])), (.ret (.call 50 [(.call 18 [(.var 0)]), (.var 1)]))]⟩
/-- without -/
def fn52 : Fn := ⟨2, 4, [(.asg (.pat (.tup [(.name 2), (.name 3)])) (.var 0)), (.ret (.tup [(.var 2), (.bin .Add (.slc (.var 3) [] [(.var 1)]) (.slc (.var 3) [(.bin .Add (.var 1) (.int 1))] []))]))]⟩
/-- redundant_ropes -/
def fn53 : Fn := ⟨1, 3, [(.ex (.call 11 [(.var 0)])), (.ex (.call 18 [(.var 0)])), (.ret (.lc [1, 2] .enum [(.idx (.var 0) (.int 1))] (.tup [(.name 1), (.name 2)]) [(.call 50 [(.make 14 [(.call 52 [(.var 0), (.var 1)])]), (.var 2)])] (.var 1)))]⟩
/-- reduce_ropes -/
def fn54 : Fn := ⟨1, 3, [(.ex (.call 11 [(.var 0)])), (.ex (.call 18 [(.var 0)])), (.forS .rng [(.bin .Sub (.blt .len [(.idx (.var 0) (.int 1))]) (.int 1)), (.neg (.int 1)), (.neg (.int 1))] (.name 1) [(.asg (.pat (.name 2)) (.call 52 [(.var 0), (.var 1)])), (.ifS (.call 50 [(.make 14 [(.var 2)]), (.idx (.idx (.var 0) (.int 1)) (.var 1))]) [(.asg (.pat (.name 0)) (.var 2))] [])]), (.ret (.var 0))]⟩
/-- greatest -/
def fn55 : Fn := ⟨2, 8, [(.asg (.pat (.name 2)) (.lst [])), (.forS .rng [(.fld (.var 0) 7)] (.name 3) [(.asg (.pat (.name 4)) (.lst [])), (.forS .enum [(.var 1)] (.tup [(.name 5), (.name 6)]) [(.asg (.pat (.name 7)) (.meth 3 (.var 0) [(.var 3), (.var 5)])), (.ifS (.and (.cmp .IsNot (.var 6) .non) (.cmp .IsNot (.var 7) .non)) [(.ex (.bm .append (.var 4) [(.bin .Add (.var 6) (.var 7))]))] [])]), (.ex (.bm .append (.var 2) [(.ite (.cmp .NotEq (.var 4) (.lst [])) (.blt .min [(.var 4)]) .non)]))]), (.ret (.blt .tuple [(.var 2)]))]⟩
/-- greatest_positions -/
def fn56 : Fn := ⟨2, 2, [(.ex (.call 11 [(.var 0)])), (.ex (.call 35 [(.var 0), (.var 1)])), (.ret (.call 55 [(.call 18 [(.var 0)]), (.var 1)]))]⟩
/-- dragged_barges -/
def fn57 : Fn := ⟨4, 8, [(.asg (.pat (.name 4)) (.call 32 [(.var 0), (.var 1), (.var 2), (.var 3)])), (.asg (.pat (.name 5)) (.lc [6, 7] .enum [(.var 1)] (.tup [(.name 6), (.name 7)]) [(.cmp .Gt (.idx (.var 4) (.var 6)) (.var 7))] (.var 6))), (.ret (.lc [6] .any [(.var 5)] (.name 6) [(.cmp .NotEq (.var 6) (.var 2))] (.var 6)))]⟩
/-- reachable_ranges -/
def fn58 : Fn := ⟨3, 6, [(.ex (.call 11 [(.var 0)])), (.ex (.call 25 [(.var 0), (.var 1)])), (.ex (.call 35 [(.var 0), (.var 2)])), (.asg (.pat (.name 3)) (.call 55 [(.call 18 [(.var 0)]), (.var 2)])), (.forS .zip [(.var 1), (.var 3)] (.tup [(.name 4), (.name 5)]) [(.ifS (.and (.cmp .IsNot (.var 5) .non) (.cmp .Lt (.var 5) (.var 4))) [(.ret .non)] [])]), (.ret (.lz (.var 1) (.var 3)))]⟩
/-- check_pair -/
def fn84 : Fn := ⟨2, 2, [(.ex (.call 11 [(.var 0)])), (.ex (.call 11 [(.var 1)])), (.ifS (.cmp .NotEq (.idx (.var 0) (.int 0)) (.idx (.var 1) (.int 0))) [.nev] []), (.ret (.call 18 [(.var 0)]))]⟩
/-- missing_rope -/
def fn85 : Fn := ⟨2, 5, [(.asg (.pat (.name 2)) (.call 84 [(.var 0), (.var 1)])), (.forS .enum [(.idx (.var 1) (.int 1))] (.tup [(.name 3), (.name 4)]) [(.ifS (.not (.call 50 [(.var 2), (.var 4)])) [(.ret (.var 3))] [])]), (.ret .non)]⟩
/-- counterexample -/
def fn86 : Fn := ⟨2, 8, [(.ex (.call 11 [(.var 0)])), (.ex (.call 12 [(.var 0), (.var 1)])), (.asg (.pat (.name 2)) (.call 18 [(.var 0)])), (.ifS (.call 50 [(.var 2), (.var 1)]) [(.ret .non)] []), (.asg (.pat (.tup [(.name 5), (.name 6), (.name 7)])) (.var 1)), (.asg (.pat (.name 3)) (.bin .Mult (.lst [.non]) (.idx (.var 0) (.int 0)))), (.asg (.sub (.var 3) (.var 6)) (.int 0)), (.asg (.pat (.name 4)) (.call 55 [(.var 2), (.blt .tuple [(.var 3)])])), (.ifS (.cmp .Is (.idx (.var 4) (.var 5)) .non) [(.asg (.sub (.var 3) (.var 5)) (.bin .Add (.var 7) (.int 1))), (.asg (.pat (.name 4)) (.call 55 [(.var 2), (.blt .tuple [(.var 3)])]))] []), (.ret (.blt .tuple [(.call 87 [(.var 2), (.var 4)])]))]⟩
/-- fill -/
def fn87 : Fn := ⟨2, 10, [(.asg (.pat (.name 2)) (.lc [6] .any [(.var 1)] (.name 6) [] (.ite (.cmp .Is (.var 6) .non) (.int 0) (.var 6)))), (.asg (.pat (.name 3)) (.lst [])), (.forS .rng [(.fld (.var 0) 7)] (.name 4) [(.asg (.pat (.name 5)) (.lc [7] .rng [(.fld (.var 0) 7)] (.name 7) [] (.meth 3 (.var 0) [(.var 7), (.var 4)]))), (.ex (.bm .append (.var 3) [(.blt .max [(.lc [8, 9] .zip [(.var 2), (.var 5)] (.tup [(.name 8), (.name 9)]) [(.cmp .IsNot (.var 9) .non)] (.bin .Sub (.var 8) (.var 9)))])]))]), (.ret (.var 3))]⟩
/-- shortest_ropes -/
def fn88 : Fn := ⟨3, 9, [(.ex (.call 11 [(.tup [(.var 0), (.tup [])])])), (.ifS (.or (.not (.isi (.var 2) .list)) (.cmp .Eq (.var 2) (.lst []))) [.nev] []), (.forS .any [(.var 2)] (.name 3) [(.ex (.call 23 [(.tup [(.var 0), (.tup [])]), (.var 3)]))]), (.asg (.pat (.name 4)) (.lst [])), (.forS .any [(.var 1)] (.name 5) [(.ifS (.or (.not (.isi (.var 5) .tuple)) (.cmp .NotEq (.blt .len [(.var 5)]) (.int 2))) [(.rse 2)] []), (.ifS (.or (.not (.blt .all [(.lc [8] .any [(.var 5)] (.name 8) [] (.call 9 [(.var 8), (.int 0), (.bin .Sub (.var 0) (.int 1))]))])) (.cmp .Eq (.idx (.var 5) (.int 0)) (.idx (.var 5) (.int 1)))) [(.rse 2)] []), (.asg (.pat (.tup [(.name 6), (.name 7)])) (.var 5)), (.ex (.bm .append (.var 4) [(.tup [(.var 6), (.var 7), (.blt .max [(.lc [3] .any [(.var 2)] (.name 3) [] (.bin .Sub (.idx (.var 3) (.var 6)) (.idx (.var 3) (.var 7))))])])]))]), (.ret (.var 4))]⟩
/-- _law_settled -/
def fn223 : Fn := ⟨2, 7, [(.asg (.pat (.name 2)) (.blt .list [(.var 1)])), (.forS .rng [(.bin .Add (.idx (.var 0) (.int 0)) (.int 1))] (.name 3) [(.forS .any [(.idx (.var 0) (.int 1))] (.tup [(.name 4), (.name 5), (.name 6)]) [(.asg (.sub (.var 2) (.var 5)) (.blt .max2 [(.idx (.var 2) (.var 5)), (.bin .Sub (.idx (.var 2) (.var 4)) (.var 6))]))])]), (.forS .any [(.idx (.var 0) (.int 1))] (.tup [(.name 4), (.name 5), (.name 6)]) [(.ifS (.cmp .Lt (.idx (.var 2) (.var 5)) (.bin .Sub (.idx (.var 2) (.var 4)) (.var 6))) [(.ret .non)] [])]), (.ret (.blt .tuple [(.var 2)]))]⟩
/-- _law_fleet -/
def fn224 : Fn := ⟨2, 12, [(.asg (.pat (.name 2)) (.bin .Add (.int 1) (.call 280 [(.var 0), (.var 1)]))), (.asg (.pat (.name 3)) (.idx (.lst [(.int 1), (.int 1), (.int 8)]) (.call 280 [(.var 0), (.int 3)]))), (.asg (.pat (.name 4)) (.lc [7] .rng [(.var 2)] (.name 7) [] (.bin .Mult (.var 3) (.call 280 [(.var 0), (.int 12)])))), (.asg (.pat (.name 5)) (.lst [])), (.forS .rng [(.call 280 [(.var 0), (.bin .Mult (.int 3) (.var 2))])] (.name 6) [(.par [8, 9] [(.call 280 [(.var 0), (.var 2)]), (.call 280 [(.var 0), (.var 2)])]), (.ifS (.cmp .NotEq (.var 8) (.var 9)) [(.asg (.pat (.name 10)) (.bin .Add (.lst [(.int 0), (.int 0), (.int 1), (.int 3), (.call 280 [(.var 0), (.int 12)])]) (.bin .Mult (.lst [(.bin .Add (.int 40) (.call 280 [(.var 0), (.int 45)]))]) (.blt .int [(.cmp .Eq (.var 3) (.int 1))])))), (.asg (.pat (.name 11)) (.idx (.var 10) (.call 280 [(.var 0), (.blt .len [(.var 10)])]))), (.ex (.bm .append (.var 5) [(.tup [(.var 8), (.var 9), (.bin .Add (.bin .Sub (.idx (.var 4) (.var 8)) (.idx (.var 4) (.var 9))) (.var 11))])])), (.ifS (.cmp .Eq (.call 280 [(.var 0), (.int 3)]) (.int 0)) [(.ex (.bm .append (.var 5) [(.tup [(.var 9), (.var 8), (.bin .Add (.bin .Sub (.idx (.var 4) (.var 9)) (.idx (.var 4) (.var 8))) (.bin .Mult (.var 11) (.call 280 [(.var 0), (.int 2)])))])]))] [])] [])]), (.ret (.tup [(.var 2), (.blt .tuple [(.slc (.var 5) [] [(.int 40)])])]))]⟩
/-- _law_positions -/
def fn225 : Fn := ⟨3, 6, [(.asg (.pat (.name 3)) (.idx (.lst [(.int 25), (.int 25), (.int 200)]) (.call 280 [(.var 0), (.int 3)]))), (.asg (.pat (.name 4)) (.lc [5] .any [(.var 2)] (.name 5) [] (.bin .Add (.var 5) (.idx (.lst [(.int 0), (.int 0), (.call 280 [(.var 0), (.int 4)]), (.call 280 [(.var 0), (.var 3)])]) (.call 280 [(.var 0), (.int 4)]))))), (.ret (.call 223 [(.var 1), (.var 4)]))]⟩
/-- _law_start -/
def fn226 : Fn := ⟨2, 3, [(.ret (.call 225 [(.var 0), (.var 1), (.lc [2] .rng [(.idx (.var 1) (.int 0))] (.name 2) [] (.bin .Sub (.call 280 [(.var 0), (.int 9)]) (.int 4)))]))]⟩
/-- _law_taken -/
def fn280 : Fn := ⟨2, 4, [(.ifS (.cmp .Gt (.idx (.var 0) (.int 3)) (.int 0)) [(.asg (.pat (.name 3)) (.bin .Mod (.blt .int [(.idx (.var 0) (.int 3))]) (.var 1))), (.asg (.sub (.var 0) (.int 3)) (.bin .FloorDiv (.idx (.var 0) (.int 3)) (.var 1))), (.ret (.var 3))] []), (.asg (.sub (.var 0) (.int 1)) (.bin .Add (.idx (.var 0) (.int 1)) (.int 1))), (.ifS (.cmp .Gt (.idx (.var 0) (.int 1)) (.blt .len [(.idx (.var 0) (.int 0))])) [(.asg (.sub (.var 0) (.int 2)) (.bin .Mod (.blt .int [(.bin .Add (.bin .Mult (.idx (.var 0) (.int 2)) (.int 48271)) (.int 11))]) (.int 2147483647))), (.ret (.bin .Mod (.blt .int [(.bin .FloorDiv (.idx (.var 0) (.int 2)) (.int 7))]) (.var 1)))] []), (.asg (.pat (.name 2)) (.idx (.idx (.var 0) (.int 0)) (.bin .Sub (.idx (.var 0) (.int 1)) (.int 1)))), (.asg (.sub (.var 0) (.int 2)) (.bin .Mod (.blt .int [(.bin .Add (.bin .Add (.bin .Mult (.idx (.var 0) (.int 2)) (.int 48271)) (.var 2)) (.int 11))]) (.int 2147483647))), (.ifS (.cmp .GtE (.var 2) (.bin .Pow (.int 10) (.int 18))) [(.asg (.sub (.var 0) (.int 3)) (.bin .FloorDiv (.var 2) (.var 1)))] []), (.ret (.bin .Mod (.blt .int [(.var 2)]) (.var 1)))]⟩
/-- _law_dragged -/
def fn281 : Fn := ⟨4, 7, [(.asg (.pat (.name 4)) (.lst [])), (.forS .rng [(.blt .len [(.var 1)])] (.name 5) [(.asg (.pat (.name 6)) (.idx (.idx (.var 0) (.var 2)) (.var 5))), (.ex (.bm .append (.var 4) [(.ite (.cmp .Is (.var 6) .non) (.idx (.var 1) (.var 5)) (.blt .max2 [(.idx (.var 1) (.var 5)), (.bin .Sub (.var 3) (.var 6))]))]))]), (.ret (.blt .tuple [(.var 4)]))]⟩
/-- _law_greatest -/
def fn282 : Fn := ⟨2, 7, [(.asg (.pat (.name 2)) (.lst [])), (.forS .rng [(.blt .len [(.var 1)])] (.name 3) [(.asg (.pat (.name 4)) (.lc [6] .rng [(.blt .len [(.var 1)])] (.name 6) [] (.idx (.idx (.var 0) (.var 3)) (.var 6)))), (.asg (.pat (.name 5)) (.lc [6] .rng [(.blt .len [(.var 1)])] (.name 6) [(.and (.cmp .IsNot (.idx (.var 1) (.var 6)) .non) (.cmp .IsNot (.idx (.var 4) (.var 6)) .non))] (.bin .Add (.idx (.var 1) (.var 6)) (.idx (.var 4) (.var 6))))), (.ex (.bm .append (.var 2) [(.ite (.cmp .NotEq (.var 5) (.lst [])) (.blt .min [(.var 5)]) .non)]))]), (.ret (.blt .tuple [(.var 2)]))]⟩
/-- _law_is_hauled -/
def fn283 : Fn := ⟨4, 13, [(.asg (.pat (.tup [(.name 5), (.name 6), (.name 7)])) (.tup [(.var 3), (.lst []), (.int 0)])), (.forS .rng [(.int 3)] (.name 4) [(.asg (.pat (.name 8)) (.call 280 [(.var 0), (.idx (.var 1) (.int 0))])), (.asg (.pat (.name 9)) (.bin .Add (.idx (.var 5) (.var 8)) (.call 280 [(.var 0), (.idx (.lst [(.int 3), (.int 40)]) (.call 280 [(.var 0), (.int 2)]))]))), (.asg (.pat (.name 10)) (.call 281 [(.var 2), (.var 5), (.var 8), (.var 9)])), (.ifS (.cmp .NotEq (.call 32 [(.var 1), (.var 5), (.var 8), (.var 9)]) (.var 10)) [(.ret (.bl false))] []), (.asg (.pat (.name 11)) (.lc [12] .rng [(.idx (.var 1) (.int 0))] (.name 12) [(.and (.cmp .NotEq (.idx (.var 10) (.var 12)) (.idx (.var 5) (.var 12))) (.cmp .NotEq (.var 12) (.var 8)))] (.var 12))), (.ifS (.cmp .NotEq (.call 57 [(.var 1), (.var 5), (.var 8), (.var 9)]) (.var 11)) [(.ret (.bl false))] []), (.asg (.pat (.name 7)) (.bin .Sub (.bin .Add (.var 7) (.var 9)) (.idx (.var 5) (.var 8)))), (.ex (.bm .append (.var 6) [(.tup [(.var 8), (.var 9)])])), (.asg (.pat (.name 5)) (.var 10))]), (.ret (.and (.cmp .Eq (.call 33 [(.var 1), (.var 3), (.var 6)]) (.var 5)) (.cmp .Eq (.call 34 [(.var 1), (.var 3), (.var 6)]) (.var 7))))]⟩
/-- law -/
def fn284 : Fn := ⟨1, 20, [(.asg (.pat (.name 1)) (.lst [(.var 0), (.int 0), (.int 0), (.int 0)])), (.forS .rng [(.int 2)] (.name 2) [(.asg (.pat (.name 3)) (.call 224 [(.var 1), (.int 7)])), (.asg (.pat (.tup [(.name 11), (.name 12)])) (.tup [(.call 226 [(.var 1), (.var 3)]), (.idx (.var 3) (.int 0))])), (.asg (.pat (.name 4)) (.lc [13] .rng [(.var 12)] (.name 13) [] (.lc [16] .rng [(.var 12)] (.name 16) [] (.call 19 [(.var 3), (.var 13), (.var 16)])))), (.ifS (.not (.call 283 [(.var 1), (.var 3), (.var 4), (.var 11)])) [(.ret (.bl false))] []), (.asg (.pat (.name 5)) (.blt .tuple [(.lc [17] .any [(.var 11)] (.name 17) [] (.ite (.cmp .Eq (.call 280 [(.var 1), (.int 2)]) (.int 0)) .non (.bin .Sub (.bin .Add (.var 17) (.call 280 [(.var 1), (.int 60)])) (.int 20))))])), (.asg (.pat (.name 6)) (.var 11)), (.forS .rng [(.var 12)] (.name 7) [(.ifS (.and (.cmp .IsNot (.idx (.var 5) (.var 7)) .non) (.cmp .Gt (.idx (.var 5) (.var 7)) (.idx (.var 11) (.var 7)))) [(.asg (.pat (.name 14)) (.call 281 [(.var 4), (.var 11), (.var 7), (.idx (.var 5) (.var 7))])), (.asg (.pat (.name 6)) (.blt .tuple [(.lc [18, 19] .zip [(.var 6), (.var 14)] (.tup [(.name 18), (.name 19)]) [] (.blt .max2 [(.var 18), (.var 19)]))]))] [])]), (.ifS (.cmp .NotEq (.call 36 [(.var 3), (.var 11), (.var 5)]) (.var 6)) [(.ret (.bl false))] []), (.asg (.pat (.name 8)) (.blt .tuple [(.lc [17] .any [(.var 11)] (.name 17) [] (.ite (.cmp .Eq (.call 280 [(.var 1), (.int 2)]) (.int 0)) .non (.bin .Sub (.bin .Add (.var 17) (.call 280 [(.var 1), (.int 60)])) (.int 9))))])), (.asg (.pat (.name 9)) (.call 282 [(.var 4), (.var 8)])), (.ifS (.cmp .NotEq (.call 56 [(.var 3), (.var 8)]) (.var 9)) [(.ret (.bl false))] []), (.asg (.pat (.name 10)) (.lc [15] .rng [(.var 12)] (.name 15) [(.and (.cmp .IsNot (.idx (.var 9) (.var 15)) .non) (.cmp .Lt (.idx (.var 9) (.var 15)) (.idx (.var 11) (.var 15))))] (.var 15))), (.ifS (.cmp .NotEq (.call 58 [(.var 3), (.var 11), (.var 8)]) (.ite (.cmp .NotEq (.var 10) (.lst [])) .non (.lz (.var 11) (.var 9)))) [(.ret (.bl false))] [])]), (.ret (.bl true))]⟩
/-- _law_lengths -/
def fn296 : Fn := ⟨1, 3, [(.ret (.lc [1] .rng [(.idx (.var 0) (.int 0))] (.name 1) [] (.lc [2] .rng [(.idx (.var 0) (.int 0))] (.name 2) [] (.call 19 [(.var 0), (.var 1), (.var 2)]))))]⟩
/-- _law_is_contradictory -/
def fn297 : Fn := ⟨1, 1, [(.tryR [(.ex (.call 19 [(.var 0), (.int 0), (.int 0)]))] 4 true), (.ret (.bl false))]⟩
/-- _law_least -/
def fn298 : Fn := ⟨4, 9, [(.par [6, 7] [(.idx (.idx (.var 0) (.var 1)) (.idx (.var 3) (.int 0))), (.idx (.idx (.var 0) (.idx (.var 3) (.int 1))) (.var 2))]), (.asg (.pat (.name 4)) (.ite (.or (.cmp .Is (.var 6) .non) (.cmp .Is (.var 7) .non)) .non (.bin .Add (.bin .Add (.var 6) (.idx (.var 3) (.int 2))) (.var 7)))), (.asg (.pat (.name 5)) (.idx (.idx (.var 0) (.var 1)) (.var 2))), (.ret (.ite (.or (.cmp .IsNot (.var 5) .non) (.cmp .IsNot (.var 4) .non)) (.blt .min [(.bin .Add (.lc [8] .any [(.tup [(.var 5), (.var 4)])] (.name 8) [(.cmp .IsNot (.var 8) .non)] (.var 8)) (.lst [(.int 9999)]))]) .non))]⟩
/-- _law_are_parts -/
def fn299 : Fn := ⟨1, 7, [(.forS .rng [(.blt .len [(.var 0)])] (.name 1) [(.forS .rng [(.blt .len [(.var 0)])] (.name 2) [(.forS .rng [(.blt .len [(.var 0)])] (.name 3) [(.par [5, 6] [(.idx (.idx (.var 0) (.var 1)) (.var 2)), (.idx (.idx (.var 0) (.var 2)) (.var 3))]), (.asg (.pat (.name 4)) (.idx (.idx (.var 0) (.var 1)) (.var 3))), (.ifS (.and (.cmp .IsNot (.var 5) .non) (.and (.cmp .IsNot (.var 6) .non) (.or (.cmp .Is (.var 4) .non) (.cmp .Gt (.var 4) (.bin .Add (.var 5) (.var 6)))))) [(.ret (.bl false))] [])])])]), (.ret (.bl true))]⟩
/-- law -/
def fn300 : Fn := ⟨1, 19, [(.asg (.pat (.name 1)) (.lst [(.var 0), (.int 0), (.int 0), (.int 0)])), (.forS .rng [(.int 2)] (.name 2) [(.asg (.pat (.name 3)) (.call 224 [(.var 1), (.int 6)])), (.asg (.pat (.tup [(.name 4), (.name 5)])) (.tup [(.idx (.var 3) (.int 0)), (.call 296 [(.var 3)])])), (.ifS (.or (.cmp .IsNot (.call 20 [(.var 3)]) .non) (.cmp .NotEq (.lc [16] .rng [(.var 4)] (.name 16) [(.cmp .NotEq (.idx (.idx (.var 5) (.var 16)) (.var 16)) (.int 0))] (.var 16)) (.lst []))) [(.ret (.bl false))] []), (.forS .any [(.idx (.var 3) (.int 1))] (.tup [(.name 6), (.name 7), (.name 8)]) [(.ifS (.or (.cmp .Is (.idx (.idx (.var 5) (.var 6)) (.var 7)) .non) (.cmp .Gt (.idx (.idx (.var 5) (.var 6)) (.var 7)) (.var 8))) [(.ret (.bl false))] [])]), (.ifS (.not (.call 299 [(.var 5)])) [(.ret (.bl false))] []), (.par [6, 7] [(.call 280 [(.var 1), (.var 4)]), (.call 280 [(.var 1), (.var 4)])]), (.ifS (.and (.cmp .NotEq (.var 6) (.var 7)) (.cmp .Lt (.blt .len [(.idx (.var 3) (.int 1))]) (.int 40))) [(.asg (.pat (.name 9)) (.tup [(.var 6), (.var 7), (.bin .Sub (.call 280 [(.var 1), (.int 60)]) (.int 30))])), (.par [12, 13] [(.tup [(.var 4), (.bin .Add (.idx (.var 3) (.int 1)) (.tup [(.var 9)]))]), (.idx (.idx (.var 5) (.var 7)) (.var 6))]), (.asg (.pat (.name 10)) (.and (.cmp .IsNot (.var 13) .non) (.cmp .Lt (.bin .Add (.var 13) (.idx (.var 9) (.int 2))) (.int 0)))), (.asg (.pat (.name 11)) (.call 20 [(.var 12)])), (.ifS (.or (.cmp .NotEq (.call 297 [(.var 12)]) (.var 10)) (.cmp .NotEq (.cmp .IsNot (.var 11) .non) (.var 10))) [(.ret (.bl false))] []), (.ifS (.and (.var 10) (.or (.not (.call 22 [(.var 12), (.var 11)])) (.cmp .NotIn (.blt .len [(.idx (.var 3) (.int 1))]) (.var 11)))) [(.ret (.bl false))] []), (.ifS (.cmp .NotEq (.call 51 [(.var 3), (.var 9)]) (.and (.cmp .IsNot (.idx (.idx (.var 5) (.var 6)) (.var 7)) .non) (.cmp .LtE (.idx (.idx (.var 5) (.var 6)) (.var 7)) (.idx (.var 9) (.int 2))))) [(.ret (.bl false))] []), (.ifS (.not (.var 10)) [(.asg (.pat (.name 14)) (.call 296 [(.var 12)])), (.asg (.pat (.name 15)) (.lc [17] .rng [(.var 4)] (.name 17) [] (.lc [18] .rng [(.var 4)] (.name 18) [] (.call 298 [(.var 5), (.var 17), (.var 18), (.var 9)])))), (.ifS (.cmp .NotEq (.var 14) (.var 15)) [(.ret (.bl false))] [])] [])] [])]), (.ret (.bl true))]⟩
/-- _law_are_alike -/
def fn312 : Fn := ⟨4, 9, [(.asg (.pat (.name 4)) (.idx (.var 1) (.int 0))), (.forS .rng [(.var 4)] (.name 5) [(.ifS (.cmp .NotEq (.lc [8] .rng [(.var 4)] (.name 8) [] (.call 19 [(.var 1), (.var 5), (.var 8)])) (.lc [8] .rng [(.var 4)] (.name 8) [] (.call 19 [(.var 2), (.var 5), (.var 8)]))) [(.ret (.bl false))] [])]), (.asg (.pat (.name 6)) (.call 280 [(.var 0), (.var 4)])), (.ifS (.cmp .NotEq (.call 32 [(.var 1), (.var 3), (.var 6), (.bin .Add (.idx (.var 3) (.var 6)) (.int 30))]) (.call 32 [(.var 2), (.var 3), (.var 6), (.bin .Add (.idx (.var 3) (.var 6)) (.int 30))])) [(.ret (.bl false))] []), (.asg (.pat (.name 7)) (.call 280 [(.var 0), (.int 5)])), (.ret (.cmp .Eq (.call 48 [(.var 1), (.var 7)]) (.call 48 [(.var 2), (.var 7)])))]⟩
/-- _law_is_rope -/
def fn313 : Fn := ⟨4, 14, [(.asg (.pat (.tup [(.name 6), (.name 7)])) (.var 1)), (.asg (.pat (.tup [(.name 8), (.name 9), (.name 10)])) (.var 3)), (.asg (.pat (.tup [(.name 11), (.name 12)])) (.tup [(.call 86 [(.var 1), (.var 3)]), (.tup [(.idx (.var 1) (.int 0)), (.bin .Add (.slc (.idx (.var 1) (.int 1)) [] [(.int 39)]) (.tup [(.var 3)]))])])), (.ifS (.cmp .NotEq (.cmp .Is (.var 11) .non) (.call 51 [(.var 1), (.var 3)])) [(.ret (.bl false))] []), (.ifS (.cmp .IsNot (.var 11) .non) [(.ifS (.or (.cmp .NotEq (.lc [13] .any [(.var 7)] (.name 13) [(.cmp .Gt (.bin .Sub (.idx (.var 11) (.idx (.var 13) (.int 0))) (.idx (.var 11) (.idx (.var 13) (.int 1)))) (.idx (.var 13) (.int 2)))] (.var 13)) (.lst [])) (.cmp .LtE (.bin .Sub (.idx (.var 11) (.var 8)) (.idx (.var 11) (.var 9))) (.var 10))) [(.ret (.bl false))] []), (.ifS (.and (.cmp .LtE (.blt .max [(.var 11)]) (.int 9999)) (.and (.cmp .GtE (.blt .min [(.var 11)]) (.neg (.int 9999))) (.cmp .NotEq (.call 26 [(.var 1), (.var 11)]) (.lst [])))) [(.ret (.bl false))] []), (.ifS (.cmp .NotEq (.call 85 [(.var 1), (.tup [(.var 6), (.bin .Add (.tup [(.var 3)]) (.slc (.var 7) [] [(.int 39)]))])]) (.int 0)) [(.ret (.bl false))] [])] [(.ifS (.and (.cmp .Lt (.blt .len [(.var 7)]) (.int 40)) (.not (.call 312 [(.var 0), (.var 1), (.var 12), (.var 2)]))) [(.ret (.bl false))] [])]), (.asg (.pat (.name 4)) (.lst [(.var 2), (.call 32 [(.var 1), (.var 2), (.var 8), (.bin .Add (.idx (.var 2) (.var 8)) (.int 9))])])), (.asg (.pat (.name 5)) (.idx (.call 88 [(.var 6), (.lst [(.tup [(.var 8), (.var 9)])]), (.var 4)]) (.int 0))), (.ifS (.cmp .NotEq (.var 5) (.tup [(.var 8), (.var 9), (.blt .max [(.lc [13] .any [(.var 4)] (.name 13) [] (.bin .Sub (.idx (.var 13) (.var 8)) (.idx (.var 13) (.var 9))))])])) [(.ret (.bl false))] []), (.ret (.or (.cmp .IsNot (.var 11) .non) (.cmp .LtE (.idx (.var 5) (.int 2)) (.var 10))))]⟩
/-- law -/
def fn314 : Fn := ⟨1, 13, [(.asg (.pat (.name 1)) (.lst [(.var 0), (.int 0), (.int 0), (.int 0)])), (.forS .rng [(.int 2)] (.name 2) [(.asg (.pat (.name 3)) (.call 224 [(.var 1), (.int 5)])), (.asg (.pat (.tup [(.name 7), (.name 8), (.name 9)])) (.tup [(.idx (.var 3) (.int 0)), (.idx (.var 3) (.int 1)), (.call 226 [(.var 1), (.var 3)])])), (.asg (.pat (.name 4)) (.call 54 [(.var 3)])), (.ifS (.or (.cmp .NotEq (.call 53 [(.var 4)]) (.lst [])) (.cmp .IsNot (.call 85 [(.var 4), (.var 3)]) .non)) [(.ret (.bl false))] []), (.ifS (.cmp .IsNot (.call 85 [(.var 3), (.var 4)]) .non) [(.ret (.bl false))] []), (.ifS (.or (.cmp .NotEq (.lc [6] .any [(.idx (.var 4) (.int 1))] (.name 6) [(.cmp .NotIn (.var 6) (.var 8))] (.var 6)) (.lst [])) (.not (.call 312 [(.var 1), (.var 3), (.var 4), (.var 9)]))) [(.ret (.bl false))] []), (.asg (.pat (.name 5)) (.lc [12] .rng [(.blt .len [(.var 8)])] (.name 12) [(.call 51 [(.tup [(.var 7), (.bin .Add (.slc (.var 8) [] [(.var 12)]) (.slc (.var 8) [(.bin .Add (.var 12) (.int 1))] []))]), (.idx (.var 8) (.var 12))])] (.var 12))), (.ifS (.cmp .NotEq (.call 53 [(.var 3)]) (.var 5)) [(.ret (.bl false))] []), (.par [10, 11] [(.call 280 [(.var 1), (.var 7)]), (.call 280 [(.var 1), (.var 7)])]), (.asg (.pat (.name 6)) (.tup [(.var 10), (.var 11), (.bin .Sub (.call 280 [(.var 1), (.int 40)]) (.int 20))])), (.ifS (.and (.cmp .NotEq (.var 10) (.var 11)) (.not (.call 313 [(.var 1), (.var 3), (.var 9), (.var 6)]))) [(.ret (.bl false))] [])]), (.ret (.bl true))]⟩
end HR

set_option linter.all false
set_option maxRecDepth 100000
set_option maxHeartbeats 1000000
/-! HR, mirror 1: rules for the evaluator. -/
namespace HR
open PySem
/-- it is there, and satisfies P -/
def osat {α : Type} (o : Option α) (P : α → Prop) : Prop :=
  match o with
  | some a => P a
  | none => False
@[simp] theorem osat_some {α : Type} {a : α} {P : α → Prop} : osat (some a) P ↔ P a := Iff.rfl
@[simp] theorem osat_none {α : Type} {P : α → Prop} : osat (none : Option α) P ↔ False := Iff.rfl
theorem osat_map {α β : Type} {o : Option α} {f : α → β} {P : β → Prop} : osat (o.map f) P ↔ osat o fun a => P (f a) := by cases o <;> rfl
theorem osat_get {α : Type} {o : Option α} {P : α → Prop} (h : osat o P) : ∃ a, o = some a ∧ P a := by
  cases o with
  | some a => exact ⟨a, rfl, h⟩
  | none => exact h.elim
theorem osat_of {α : Type} {o : Option α} {a : α} {P : α → Prop} (e : o = some a) (h : P a) : osat o P := by rw [e]; exact h
/-- what a result satisfies; nothing raised -/
def R.wp {α : Type} (x : R α) (Q : α → Mem → Prop) : Prop :=
  match x with
  | .ok a m => Q a m
  | _ => False
theorem R.wp.mono {α : Type} {x : R α} {Q Q' : α → Mem → Prop} (h : x.wp Q) (w : ∀ a m, Q a m → Q' a m) : x.wp Q' := by
  cases x with
  | ok a m => exact w _ _ h
  | exn _ _ _ => exact h.elim
  | bad => exact h.elim
theorem R.wp.ok {α : Type} {x : R α} {Q : α → Mem → Prop} (h : x.wp Q) : ∃ a m, x = .ok a m ∧ Q a m := by
  cases x with
  | ok a m => exact ⟨a, m, rfl, h⟩
  | exn _ _ _ => exact h.elim
  | bad => exact h.elim
/-- how a statement ends; nothing raised -/
def R.ws (x : R (Fl × Sl)) (Q : Fl → Sl → Mem → Prop) : Prop :=
  match x with
  | .ok (.ex _ _, _) _ => False
  | .ok (fl, r) m => Q fl r m
  | _ => False
@[simp] theorem wpOk {α : Type} {a : α} {m : Mem} {Q : α → Mem → Prop} : (R.ok a m).wp Q ↔ Q a m := Iff.rfl
@[simp] theorem wpBad {α : Type} {Q : α → Mem → Prop} : (R.bad : R α).wp Q ↔ False := Iff.rfl
@[simp] theorem wpBind {α β : Type} {x : R α} {f : α → Mem → R β} {Q : β → Mem → Prop} : (x.bind f).wp Q ↔ x.wp fun a m => (f a m).wp Q := by cases x <;> rfl
@[simp] theorem wpCalm {α : Type} {x : R α} {Q : α → Mem → Prop} : x.calm.wp Q ↔ x.wp Q := by cases x <;> rfl
@[simp] theorem wpOf {α : Type} {o : Option α} {m : Mem} {Q : α → Mem → Prop} : (R.of m o).wp Q ↔ osat o fun a => Q a m := by cases o <;> rfl
@[simp] theorem wsNx {r : Sl} {m : Mem} {Q : Fl → Sl → Mem → Prop} : (R.ok (Fl.nx, r) m).ws Q ↔ Q .nx r m := Iff.rfl
@[simp] theorem wsBk {r : Sl} {m : Mem} {Q : Fl → Sl → Mem → Prop} : (R.ok (Fl.bk, r) m).ws Q ↔ Q .bk r m := Iff.rfl
@[simp] theorem wsCt {r : Sl} {m : Mem} {Q : Fl → Sl → Mem → Prop} : (R.ok (Fl.ct, r) m).ws Q ↔ Q .ct r m := Iff.rfl
@[simp] theorem wsRt {r : Sl} {m : Mem} {d : D} {Q : Fl → Sl → Mem → Prop} : (R.ok (Fl.rt d, r) m).ws Q ↔ Q (.rt d) r m := Iff.rfl
@[simp] theorem wsBad {Q : Fl → Sl → Mem → Prop} : (R.bad : R (Fl × Sl)).ws Q ↔ False := Iff.rfl
@[simp] theorem wsSb {α : Type} {x : R α} {r : Sl} {f : α → Mem → R (Fl × Sl)} {Q : Fl → Sl → Mem → Prop} : (x.sb r f).ws Q ↔ x.wp fun a m => (f a m).ws Q := by
  cases x <;> rfl
@[simp] theorem wsBind {α : Type} {x : R α} {f : α → Mem → R (Fl × Sl)} {Q : Fl → Sl → Mem → Prop} : (x.bind f).ws Q ↔ x.wp fun a m => (f a m).ws Q := by cases x <;> rfl
@[simp] theorem wsOf {o : Option (Fl × Sl)} {m : Mem} {Q : Fl → Sl → Mem → Prop} : (R.of m o).ws Q ↔ osat o fun q => (R.ok q m).ws Q := by cases o <;> rfl
theorem ws_wp {x : R (Fl × Sl)} {Q : Fl → Sl → Mem → Prop} : x.ws Q ↔ x.wp fun q m => (R.ok q m).ws Q := by cases x <;> rfl
theorem R.ws.mono {x : R (Fl × Sl)} {Q Q' : Fl → Sl → Mem → Prop} (h : x.ws Q) (w : ∀ fl r m, Q fl r m → Q' fl r m) : x.ws Q' := by
  cases x with
  | ok a m =>
    obtain ⟨fl, r⟩ := a
    cases fl <;> first | exact h.elim | exact w _ _ _ h
  | exn _ _ _ => exact h.elim
  | bad => exact h.elim
section
variable {cx : Cx} {r : Sl} {m : Mem} {Q : D → Mem → Prop} {QL : List D → Mem → Prop} {QB : Bool → Mem → Prop} {QS : Fl → Sl → Mem → Prop}
@[simp] theorem w_var {i : Nat} : (evE cx (.var i) r m).wp Q ↔ osat (r[i]?.bind id) fun d => Q d m := by rw [evE]; simp
@[simp] theorem w_int {i : Int} : (evE cx (.int i) r m).wp Q ↔ Q (.int i) m := by rw [evE]; simp
@[simp] theorem w_bl {b : Bool} : (evE cx (.bl b) r m).wp Q ↔ Q (.bl b) m := by rw [evE]; simp
@[simp] theorem w_non : (evE cx .non r m).wp Q ↔ Q .non m := by rw [evE]; simp
@[simp] theorem w_str {s : Str} : (evE cx (.str s) r m).wp Q ↔ Q (.str s) m := by rw [evE]; simp
@[simp] theorem w_gint {x : Str} {i : Int} : (evE cx (.gint x i) r m).wp Q ↔ Q (.int i) m := by rw [evE]; simp
@[simp] theorem w_bin {op : Operator} {a b : E} : (evE cx (.bin op a b) r m).wp Q ↔ (evE cx a r m).wp fun x m1 => (evE cx b r m1).wp fun y m2 => (binV op x y m2).wp Q := by rw [evE]; simp
@[simp] theorem w_neg {a : E} : (evE cx (.neg a) r m).wp Q ↔ (evE cx a r m).wp fun x m1 => osat (intOf x) fun i => Q (.int (-i)) m1 := by rw [evE]; simp [osat_map]
@[simp] theorem w_not {a : E} : (evE cx (.not a) r m).wp Q ↔ (evE cx a r m).wp fun x m1 => osat (boolOf x) fun b => Q (.bl (!b)) m1 := by rw [evE]; simp [osat_map]
@[simp] theorem w_cmp {op : CmpOp} {a b : E} : (evE cx (.cmp op a b) r m).wp Q ↔ (evE cx a r m).wp fun x m1 => (evE cx b r m1).wp fun y m2 => osat (cmpV op x y m2) fun t => Q (.bl t) m2 := by rw [evE]; simp [osat_map]
@[simp] theorem w_cmp2 {op op2 : CmpOp} {a b c : E} : (evE cx (.cmp2 op op2 a b c) r m).wp Q ↔ (evE cx a r m).wp fun x m1 => (evE cx b r m1).wp fun y m2 => osat (cmpV op x y m2) fun t =>
    if t = true then (evE cx c r m2).wp fun z m3 => osat (cmpV op2 y z m3) fun t => Q (.bl t) m3 else Q (.bl false) m2 := by
  rw [evE]
  simp only [wpBind]
  constructor <;> refine fun h => h.mono fun x m1 h => h.mono fun y m2 h => ?_
  · cases e : cmpV op x y m2 with
    | none => rw [e] at h; exact h.elim
    | some t => rw [e] at h; cases t <;> simpa [osat_map] using h
  · cases e : cmpV op x y m2 with
    | none => rw [e] at h; exact h.elim
    | some t => rw [e] at h; cases t <;> simpa [osat_map] using h
@[simp] theorem w_and {a b : E} : (evE cx (.and a b) r m).wp Q ↔ (evE cx a r m).wp fun x m1 => osat (boolOf x) fun t => if t = true then (evE cx b r m1).wp Q else Q (.bl false) m1 := by
  rw [evE]
  simp only [wpBind]
  constructor <;> refine fun h => h.mono fun x m1 h => ?_
  · cases e : boolOf x with
    | none => rw [e] at h; exact h.elim
    | some t => rw [e] at h; cases t <;> simpa using h
  · cases e : boolOf x with
    | none => rw [e] at h; exact h.elim
    | some t => rw [e] at h; cases t <;> simpa using h
@[simp] theorem w_or {a b : E} : (evE cx (.or a b) r m).wp Q ↔ (evE cx a r m).wp fun x m1 => osat (boolOf x) fun t => if t = true then Q (.bl true) m1 else (evE cx b r m1).wp Q := by
  rw [evE]
  simp only [wpBind]
  constructor <;> refine fun h => h.mono fun x m1 h => ?_
  · cases e : boolOf x with
    | none => rw [e] at h; exact h.elim
    | some t => rw [e] at h; cases t <;> simpa using h
  · cases e : boolOf x with
    | none => rw [e] at h; exact h.elim
    | some t => rw [e] at h; cases t <;> simpa using h
@[simp] theorem w_ite {c a b : E} : (evE cx (.ite c a b) r m).wp Q ↔ (evE cx c r m).wp fun x m1 => osat (boolOf x) fun t => if t = true then (evE cx a r m1).wp Q else (evE cx b r m1).wp Q := by
  rw [evE]
  simp only [wpBind]
  constructor <;> refine fun h => h.mono fun x m1 h => ?_
  · cases e : boolOf x with
    | none => rw [e] at h; exact h.elim
    | some t => rw [e] at h; cases t <;> simpa using h
  · cases e : boolOf x with
    | none => rw [e] at h; exact h.elim
    | some t => rw [e] at h; cases t <;> simpa using h
@[simp] theorem w_tup {es : List E} : (evE cx (.tup es) r m).wp Q ↔ (evL cx es r m).wp fun ds m1 => ds.length ≤ big ∧ Q (.tup ds) m1 := by
  rw [evE]
  simp only [wpBind]
  constructor <;> refine fun h => h.mono fun ds m1 h => ?_
  · split at h
    · rename_i z; exact ⟨z, h⟩
    · exact h.elim
  · rw [if_pos h.1]; exact h.2
@[simp] theorem w_lst {es : List E} : (evE cx (.lst es) r m).wp Q ↔ (evL cx es r m).wp fun ds m1 => ds.length ≤ big ∧ Q (.ref m1.length) (m1 ++ [.lst ds]) := by
  rw [evE]
  simp only [wpBind]
  constructor <;> refine fun h => h.mono fun ds m1 h => ?_
  · split at h
    · rename_i z; exact ⟨z, h⟩
    · exact h.elim
  · rw [if_pos h.1]; exact h.2
@[simp] theorem w_idx {a i : E} : (evE cx (.idx a i) r m).wp Q ↔ (evE cx a r m).wp fun x m1 => (evE cx i r m1).wp fun y m2 => osat (idxV x y m2) fun d => Q d m2 := by rw [evE]; simp
@[simp] theorem w_slc {a : E} {lo hi : List E} : (evE cx (.slc a lo hi) r m).wp Q ↔ (evE cx a r m).wp fun x m1 => (evL cx lo r m1).wp fun ls m2 => osat (optI ls) fun l => (evL cx hi r m2).wp fun hs m3 => osat (optI hs) fun h => (slcV x l h m3).wp Q := by rw [evE]; simp
@[simp] theorem w_fld {a : E} {f : Nat} : (evE cx (.fld a f) r m).wp Q ↔ (evE cx a r m).wp fun x m1 => osat (fldV x f m1) fun d => Q d m1 := by rw [evE]; simp
@[simp] theorem w_call {f : Nat} {es : List E} : (evE cx (.call f es) r m).wp Q ↔ (evL cx es r m).wp fun ds m1 => (cx.call f ds m1).wp Q := by rw [evE]; simp
theorem w_meth {n : Nat} {o : E} {es : List E} : (evE cx o r m).wp (fun x m1 => osat ((clsOf x m1).bind (fun c => cx.meth c n)) fun f => (evL cx es r m1).wp fun ds m2 => (cx.call f (x :: ds) m2).wp Q) → (evE cx (.meth n o es) r m).wp Q := by
  intro h
  rw [evE]
  rw [wpBind]
  refine h.mono fun x m1 h => ?_
  cases e : (clsOf x m1).bind fun c => cx.meth c n with
  | none => rw [e] at h; exact h.elim
  | some f => rw [e] at h; simpa using h
theorem w_make {c f : Nat} {es : List E} (e : cx.init c = some f) : (evL cx es r m).wp (fun ds m1 => (cx.call f (.ref m1.length :: ds) (m1 ++ [.ins c []])).wp fun v m2 => v = .non ∧ Q (.ref m1.length) m2) → (evE cx (.make c es) r m).wp Q := by
  intro h
  rw [evE, e]
  simp only [wpBind]
  refine h.mono fun ds m1 h => h.mono fun v m2 ⟨e, h⟩ => ?_
  subst e
  exact h
@[simp] theorem w_blt {b : B} {es : List E} : (evE cx (.blt b es) r m).wp Q ↔ (evL cx es r m).wp fun ds m1 => (bltV b ds m1).wp Q := by rw [evE]; simp
@[simp] theorem w_bm {b : BM} {o : E} {es : List E} : (evE cx (.bm b o es) r m).wp Q ↔ (evE cx o r m).wp fun x m1 => rcv b x m1 = true ∧ (evL cx es r m1).wp fun ds m2 => (bmV b x ds m2).wp Q := by
  rw [evE]
  simp only [wpBind]
  constructor <;> refine fun h => h.mono fun x m1 h => ?_
  · split at h
    · rename_i z; exact ⟨z, by simpa using h⟩
    · exact h.elim
  · rw [if_pos h.1]; simpa using h.2
@[simp] theorem w_isi {a : E} {t : Ty} : (evE cx (.isi a t) r m).wp Q ↔ (evE cx a r m).wp fun x m1 => osat (isiV x t m1) fun b => Q (.bl b) m1 := by rw [evE]; simp [osat_map]
@[simp] theorem w_lz {a b : E} : (evE cx (.lz a b) r m).wp Q ↔ (evE cx a r m).wp fun x m1 => (evE cx b r m1).wp fun y m2 => (lzV x y m2).wp Q := by rw [evE]; simp
@[simp] theorem w_dnew {tk : Bool} : (evE cx (.dnew tk) r m).wp Q ↔ Q (.ref m.length) (m ++ [if tk then .dT false [] else .dK false []]) := by rw [evE]; simp
@[simp] theorem w_nil : (evL cx [] r m).wp QL ↔ QL [] m := by rw [evL]; simp
@[simp] theorem w_cons {e : E} {es : List E} : (evL cx (e :: es) r m).wp QL ↔ (evE cx e r m).wp fun d m1 => (evL cx es r m1).wp fun ds m2 => QL (d :: ds) m2 := by rw [evL]; simp
@[simp] theorem w_tst {e : E} : (tstE cx e r m).wp QB ↔ (evE cx e r m).wp fun d m1 => osat (boolOf d) fun b => QB b m1 := by unfold tstE; simp
@[simp] theorem w_pas : (evS cx .pas r m).ws QS ↔ QS .nx r m := by rw [evS]; simp
@[simp] theorem w_nev : (evS cx .nev r m).ws QS ↔ False := by rw [evS]; simp
@[simp] theorem w_ex {e : E} : (evS cx (.ex e) r m).ws QS ↔ (evE cx e r m).wp fun _ m1 => QS .nx r m1 := by rw [evS]; simp
@[simp] theorem w_asg {t : T} {e : E} : (evS cx (.asg t e) r m).ws QS ↔ (evE cx e r m).wp fun d m1 => (asgT cx t d r m1).wp fun r1 m2 => QS .nx r1 m2 := by rw [evS]; simp
@[simp] theorem w_par {is : List Nat} {es : List E} : (evS cx (.par is es) r m).ws QS ↔ (evL cx es r m).wp fun ds m1 => osat (setMany r is ds) fun r1 => QS .nx r1 m1 := by rw [evS]; simp [osat_map]
@[simp] theorem w_ifS {c : E} {a b : List HR.S} : (evS cx (.ifS c a b) r m).ws QS ↔ (tstE cx c r m).wp fun t m1 => if t = true then (evSs cx a r m1).ws QS else (evSs cx b r m1).ws QS := by
  rw [evS]
  simp only [wsSb]
  constructor <;> refine fun h => h.mono fun t m1 h => ?_
  · cases t <;> simpa using h
  · cases t <;> simpa using h
@[simp] theorem w_ret {e : E} : (evS cx (.ret e) r m).ws QS ↔ (evE cx e r m).wp fun d m1 => QS (.rt d) r m1 := by rw [evS]; simp
@[simp] theorem w_brk : (evS cx .brk r m).ws QS ↔ QS .bk r m := by rw [evS]; simp
@[simp] theorem w_cnt : (evS cx .cnt r m).ws QS ↔ QS .ct r m := by rw [evS]; simp
@[simp] theorem w_nilS : (evSs cx [] r m).ws QS ↔ QS .nx r m := by rw [evSs]; simp
/-- what follows a statement -/
def thenS (cx : Cx) (ss : List HR.S) (QS : Fl → Sl → Mem → Prop) : Fl → Sl → Mem → Prop := fun fl r m =>
  match fl with
  | .nx => (evSs cx ss r m).ws QS
  | fl => QS fl r m
@[simp] theorem thenNx {ss : List HR.S} : thenS cx ss QS .nx r m ↔ (evSs cx ss r m).ws QS := Iff.rfl
@[simp] theorem thenRt {ss : List HR.S} {d : D} : thenS cx ss QS (.rt d) r m ↔ QS (.rt d) r m := Iff.rfl
@[simp] theorem thenBk {ss : List HR.S} : thenS cx ss QS .bk r m ↔ QS .bk r m := Iff.rfl
@[simp] theorem thenCt {ss : List HR.S} : thenS cx ss QS .ct r m ↔ QS .ct r m := Iff.rfl
@[simp] theorem w_consS {s : HR.S} {ss : List HR.S} : (evSs cx (s :: ss) r m).ws QS ↔ (evS cx s r m).ws (thenS cx ss QS) := by
  rw [evSs]
  cases evS cx s r m with
  | ok q m1 =>
    obtain ⟨fl, r1⟩ := q
    cases fl <;> rfl
  | exn _ _ _ => rfl
  | bad => rfl
end
/-- the end of a def's body -/
def endF (Q : D → Mem → Prop) : Fl → Sl → Mem → Prop := fun fl _ m =>
  match fl with
  | .nx => Q .non m
  | .rt d => Q d m
  | _ => False
@[simp] theorem endNx {Q : D → Mem → Prop} {r : Sl} {m : Mem} : endF Q .nx r m ↔ Q .non m := Iff.rfl
@[simp] theorem endRt {Q : D → Mem → Prop} {r : Sl} {m : Mem} {d : D} : endF Q (.rt d) r m ↔ Q d m := Iff.rfl
/-- a call -/
theorem wp_call {G : Prog} {n f : Nat} {F : Fn} {ds : List D} {m : Mem} {Q : D → Mem → Prop} (hF : G.fns f = some F) (hl : ds.length = F.np) (h : (evSs ⟨callN G n, G.meth, G.init⟩ F.body (startS F.ns ds) m).ws (endF Q)) :
    (callN G (n + 1) f ds m).wp Q := by
  unfold callN
  rw [hF]
  simp only [hl, if_true]
  rw [wpBind]
  cases e : evSs ⟨callN G n, G.meth, G.init⟩ F.body (startS F.ns ds) m with
  | ok q m1 =>
    rw [e] at h
    obtain ⟨fl, r1⟩ := q
    cases fl <;> first | exact h | exact h.elim
  | exn _ _ _ => rw [e] at h; exact h.elim
  | bad => rw [e] at h; exact h.elim
/-- a loop over what does not change while it runs -/
theorem ws_for {it : It} {p : P} {body : Sl → Mem → R (Fl × Sl)} {r : Sl} {m : Mem} {Q : Fl → Sl → Mem → Prop} (I : Nat → Sl → Mem → Prop) (xs : List D) (hit : ∀ i r m, I i r m → it.nth i m = some xs[i]?) (h0 : I 0 r m) (hlen : xs.length < FU)
    (step : ∀ i r m x, xs[i]? = some x → I i r m → ∃ r1, asgP p x r = some r1 ∧ (body r1 m).ws fun fl r m' => match fl with
      | .nx => I (i + 1) r m'
      | .ct => I (i + 1) r m'
      | .bk => Q .nx r m'
      | .rt d => Q (.rt d) r m'
      | .ex _ _ => False)
    (hend : ∀ r m, I xs.length r m → Q .nx r m) : (forLoop it p body FU 0 r m).ws Q := by
  suffices H : ∀ (k n i : Nat) (r : Sl) (m : Mem), xs.length - i = k → i ≤ xs.length → k < n → I i r m → (forLoop it p body n i r m).ws Q from H _ _ 0 r m rfl (Nat.zero_le _) (by simpa using hlen) h0
  intro k
  induction k with
  | zero =>
    intro n i r m hk hi hn hI
    obtain ⟨n, rfl⟩ : ∃ n', n = n' + 1 := ⟨n - 1, by omega⟩
    have e : i = xs.length := by omega
    subst e
    unfold forLoop
    rw [hit _ _ _ hI, List.getElem?_eq_none (Nat.le_refl _)]
    exact hend r m hI
  | succ k ih =>
    intro n i r m hk hi hn hI
    obtain ⟨n, rfl⟩ : ∃ n', n = n' + 1 := ⟨n - 1, by omega⟩
    have hlt : i < xs.length := by omega
    unfold forLoop
    rw [hit _ _ _ hI, List.getElem?_eq_getElem hlt]
    obtain ⟨r1, e1, h1⟩ := step i r m xs[i] (List.getElem?_eq_getElem hlt) hI
    simp only [e1]
    rw [wsBind]
    cases e : body r1 m with
    | ok q m1 =>
      rw [e] at h1
      obtain ⟨fl, r2⟩ := q
      cases fl with
      | nx => exact ih n (i + 1) r2 m1 (by omega) (by omega) (by omega) h1
      | ct => exact ih n (i + 1) r2 m1 (by omega) (by omega) (by omega) h1
      | bk => exact h1
      | rt d => exact h1
      | ex c fs => exact h1.elim
    | exn _ _ _ => rw [e] at h1; exact h1.elim
    | bad => rw [e] at h1; exact h1.elim
/-- a list comprehension's loop: acc is the new list -/
theorem wp_lc {it : It} {turn : D → Mem → R (Option D)} {kD : Nat} {m : Mem} {Q : Unit → Mem → Prop} (I : Nat → List D → Mem → Prop) (xs : List D) (hit : ∀ i acc m, I i acc m → it.nth i m = some xs[i]?) (hD : ∀ i acc m, I i acc m → m[kD]? = some (.lst acc)) (h0 : I 0 [] m) (hlen : xs.length < FU)
    (step : ∀ i acc m x, xs[i]? = some x → I i acc m → (turn x m).wp fun o m' => match o with
      | none => I (i + 1) acc m'
      | some d => m'[kD]? = some (.lst acc) ∧ acc.length < big ∧ I (i + 1) (acc ++ [d]) (m'.set kD (.lst (acc ++ [d]))))
    (hend : ∀ acc m, I xs.length acc m → Q () m) : (lcLoop it turn kD FU 0 m).wp Q := by
  suffices H : ∀ (k n i : Nat) (acc : List D) (m : Mem), xs.length - i = k → i ≤ xs.length → k < n → I i acc m → (lcLoop it turn kD n i m).wp Q from H _ _ 0 [] m rfl (Nat.zero_le _) (by simpa using hlen) h0
  intro k
  induction k with
  | zero =>
    intro n i acc m hk hi hn hI
    obtain ⟨n, rfl⟩ : ∃ n', n = n' + 1 := ⟨n - 1, by omega⟩
    have e : i = xs.length := by omega
    subst e
    unfold lcLoop
    rw [hit _ _ _ hI, List.getElem?_eq_none (Nat.le_refl _)]
    exact hend acc m hI
  | succ k ih =>
    intro n i acc m hk hi hn hI
    obtain ⟨n, rfl⟩ : ∃ n', n = n' + 1 := ⟨n - 1, by omega⟩
    have hlt : i < xs.length := by omega
    unfold lcLoop
    rw [hit _ _ _ hI, List.getElem?_eq_getElem hlt]
    simp only
    rw [wpBind]
    refine (step i acc m xs[i] (List.getElem?_eq_getElem hlt) hI).mono fun o m' ho => ?_
    cases o with
    | none => exact ih n (i + 1) acc m' (by omega) (by omega) (by omega) ho
    | some d =>
      obtain ⟨h1, h2, h3⟩ := ho
      simp only [h1, h2, if_true]
      exact ih n (i + 1) _ _ (by omega) (by omega) (by omega) h3
theorem wp_dc {it : It} {turn : D → Mem → R (Option (D × D))} {kD : Nat} {m : Mem} {Q : Unit → Mem → Prop} (I : Nat → Mem → Prop) (xs : List D) (hit : ∀ i m, I i m → it.nth i m = some xs[i]?) (h0 : I 0 m) (hlen : xs.length < FU)
    (step : ∀ i m x, xs[i]? = some x → I i m → (turn x m).wp fun o m' => match o with
      | none => I (i + 1) m'
      | some (a, b) => ∃ m2, dcPut kD a b m' = some m2 ∧ I (i + 1) m2)
    (hend : ∀ m, I xs.length m → Q () m) : (dcLoop it turn kD FU 0 m).wp Q := by
  suffices H : ∀ (k n i : Nat) (m : Mem), xs.length - i = k → i ≤ xs.length → k < n → I i m → (dcLoop it turn kD n i m).wp Q from H _ _ 0 m rfl (Nat.zero_le _) (by simpa using hlen) h0
  intro k
  induction k with
  | zero =>
    intro n i m hk hi hn hI
    obtain ⟨n, rfl⟩ : ∃ n', n = n' + 1 := ⟨n - 1, by omega⟩
    have e : i = xs.length := by omega
    subst e
    unfold dcLoop
    rw [hit _ _ hI, List.getElem?_eq_none (Nat.le_refl _)]
    exact hend m hI
  | succ k ih =>
    intro n i m hk hi hn hI
    obtain ⟨n, rfl⟩ : ∃ n', n = n' + 1 := ⟨n - 1, by omega⟩
    have hlt : i < xs.length := by omega
    unfold dcLoop
    rw [hit _ _ hI, List.getElem?_eq_getElem hlt]
    simp only
    rw [wpBind]
    refine (step i m xs[i] (List.getElem?_eq_getElem hlt) hI).mono fun o m' ho => ?_
    cases o with
    | none => exact ih n (i + 1) m' (by omega) (by omega) (by omega) ho
    | some ab =>
      obtain ⟨a, b⟩ := ab
      obtain ⟨m2, h1, h3⟩ := ho
      simp only [h1]
      exact ih n (i + 1) _ (by omega) (by omega) (by omega) h3
section
variable {cx : Cx} {r : Sl} {m : Mem} {Q : D → Mem → Prop} {QS : Fl → Sl → Mem → Prop}
theorem w_forS {ik : IK} {it : List E} {p : P} {body : List HR.S} (h : (evL cx it r m).wp fun ds m1 => osat (mkIt ik ds m1) fun q => (forLoop q.1 p (fun r m => evSs cx body r m) FU 0 r q.2).ws fun fl r' m3 => QS fl r' (endIt q.1 m3)) :
    (evS cx (.forS ik it p body) r m).ws QS := by
  rw [evS, wsSb]
  refine h.mono fun ds m1 h => ?_
  obtain ⟨⟨J, m2⟩, e, h⟩ := osat_get h
  rw [e]
  simp only at h ⊢
  rw [wsBind]
  cases e2 : forLoop J p (fun r m => evSs cx body r m) FU 0 r m2 with
  | ok q m3 =>
    rw [e2] at h
    obtain ⟨fl, r'⟩ := q
    cases fl <;> first | exact h.elim | exact h
  | exn _ _ _ => rw [e2] at h; exact h.elim
  | bad => rw [e2] at h; exact h.elim
def turnL (cx : Cx) (own : List Nat) (p : P) (cond : List E) (elt : E) (r : Sl) (x : D) (m : Mem) : R (Option D) :=
  match asgP p x (wipeS r own) with
  | none => .bad
  | some r1 => ((evL cx cond r1 m).bind fun cs m2 => (R.of m2 (condB cs)).bind fun b m3 =>
      if b = true then (evE cx elt r1 m3).bind fun d m4 => .ok (some d) m4 else .ok none m3).calm
theorem w_turnL {own : List Nat} {p : P} {cond : List E} {elt : E} {x : D} {r1 : Sl} {QO : Option D → Mem → Prop} (e : asgP p x (wipeS r own) = some r1)
    (h : (evL cx cond r1 m).wp fun cs m2 => osat (condB cs) fun b => if b = true then (evE cx elt r1 m2).wp fun d m4 => QO (some d) m4 else QO none m2) : (turnL cx own p cond elt r x m).wp QO := by
  unfold turnL
  rw [e]
  simp only [wpCalm, wpBind, wpOf]
  refine h.mono fun cs m2 h => ?_
  cases e2 : condB cs with
  | none => rw [e2] at h; exact h.elim
  | some b => rw [e2] at h; cases b <;> simpa using h
theorem w_lc {own : List Nat} {ik : IK} {it : List E} {p : P} {cond : List E} {elt : E} (h : (evL cx it r m).wp fun ds m1 => osat (mkIt ik ds m1) fun q => (lcLoop q.1 (turnL cx own p cond elt r) q.2.length FU 0 (q.2 ++ [.lst []])).wp fun _ m5 => Q (.ref q.2.length) (endIt q.1 m5)) :
    (evE cx (.lc own ik it p cond elt) r m).wp Q := by
  rw [evE, wpBind]
  refine h.mono fun ds m1 h => ?_
  obtain ⟨⟨J, m2⟩, e, h⟩ := osat_get h
  rw [e]
  simp only
  rw [wpBind]
  exact h
def turnD (cx : Cx) (own : List Nat) (p : P) (cond : List E) (ke ve : E) (r : Sl) (x : D) (m : Mem) : R (Option (D × D)) :=
  match asgP p x (wipeS r own) with
  | none => .bad
  | some r1 => ((evL cx cond r1 m).bind fun cs m2 => (R.of m2 (condB cs)).bind fun b m3 =>
      if b = true then (evE cx ke r1 m3).bind fun x m4 => (evE cx ve r1 m4).bind fun y m5 => .ok (some (x, y)) m5 else .ok none m3).calm
theorem w_turnD {own : List Nat} {p : P} {cond : List E} {ke ve : E} {x : D} {r1 : Sl} {QO : Option (D × D) → Mem → Prop} (e : asgP p x (wipeS r own) = some r1)
    (h : (evL cx cond r1 m).wp fun cs m2 => osat (condB cs) fun b => if b = true then (evE cx ke r1 m2).wp fun x m4 => (evE cx ve r1 m4).wp fun y m5 => QO (some (x, y)) m5 else QO none m2) : (turnD cx own p cond ke ve r x m).wp QO := by
  unfold turnD
  rw [e]
  simp only [wpCalm, wpBind, wpOf]
  refine h.mono fun cs m2 h => ?_
  cases e2 : condB cs with
  | none => rw [e2] at h; exact h.elim
  | some b => rw [e2] at h; cases b <;> simpa using h
theorem w_dc {tk : Bool} {own : List Nat} {ik : IK} {it : List E} {p : P} {cond : List E} {ke ve : E} (h : (evL cx it r m).wp fun ds m1 => osat (mkIt ik ds m1) fun q => (dcLoop q.1 (turnD cx own p cond ke ve r) q.2.length FU 0 (q.2 ++ [if tk then .dT false [] else .dK false []])).wp fun _ m5 => Q (.ref q.2.length) (endIt q.1 m5)) :
    (evE cx (.dc tk own ik it p cond ke ve) r m).wp Q := by
  rw [evE, wpBind]
  refine h.mono fun ds m1 h => ?_
  obtain ⟨⟨J, m2⟩, e, h⟩ := osat_get h
  rw [e]
  simp only
  rw [wpBind]
  exact h
end
/-- is_integer -/
theorem w_isint {G : Prog} (h : G.fns 9 = some fn9) {n : Nat} {v lo hi : Int} {m : Mem} {Q : D → Mem → Prop} (hQ : Q (.bl (decide (lo ≤ v) && decide (v ≤ hi))) m) : (callN G (n + 1) 9 [.int v, .int lo, .int hi] m).wp Q := by
  refine wp_call h rfl ?_
  simp [fn9, startS, isiV, boolOf, cmpV]
  by_cases h1 : lo ≤ v
  · simpa [h1] using hQ
  · simpa [h1] using hQ
end HR

set_option linter.all false
set_option maxRecDepth 100000
set_option maxHeartbeats 1000000
/-! HR, mirror 2: fleets, positions. -/
namespace HR
open PySem
abbrev Rope := Nat × Nat × Int
def ropeD (x : Rope) : D := .tup [.int x.1, .int x.2.1, .int x.2.2]
structure Fleet where
  n : Nat
  rs : List Rope
def Fleet.d (F : Fleet) : D := .tup [.int F.n, .tup (F.rs.map ropeD)]
structure RopeOk (n : Nat) (x : Rope) : Prop where
  f : x.1 < n
  r : x.2.1 < n
  ne : x.1 ≠ x.2.1
  lo : -99 ≤ x.2.2
  hi : x.2.2 ≤ 99
structure Fleet.Ok (F : Fleet) : Prop where
  n1 : 1 ≤ F.n
  n8 : F.n ≤ 8
  len : F.rs.length ≤ 40
  rp : ∀ x ∈ F.rs, RopeOk F.n x
/-! ### targets, as they are worked off -/
@[simp] theorem a_pat {cx : Cx} {p : P} {d : D} {r : Sl} {m : Mem} : asgT cx (.pat p) d r m = R.of m (asgP p d r) := by rw [asgT]
@[simp] theorem a_name {i : Nat} {d : D} {r : Sl} : asgP (.name i) d r = some (r.set i (some d)) := by rw [asgP]
@[simp] theorem a_tup {ps : List P} {ds : List D} {r : Sl} : asgP (.tup ps) (.tup ds) r = asgPs ps ds r := by rw [asgP]
@[simp] theorem a_nil {r : Sl} : asgPs [] [] r = some r := by rw [asgPs]
@[simp] theorem a_cons {p : P} {ps : List P} {d : D} {ds : List D} {r : Sl} : asgPs (p :: ps) (d :: ds) r = (asgP p d r).bind fun r1 => asgPs ps ds r1 := by rw [asgPs]
section
variable {cx : Cx} {r : Sl} {m : Mem} {QR : Sl → Mem → Prop}
@[simp] theorem a_sub {o i : E} {d : D} : (asgT cx (.sub o i) d r m).wp QR ↔ (evE cx o r m).wp fun x m1 => (evE cx i r m1).wp fun y m2 => osat (setSub x y d m2) fun m3 => QR r m3 := by
  rw [asgT]
  simp only [wpBind]
  constructor <;> refine fun h => h.mono fun x m1 h => h.mono fun y m2 h => ?_
  · cases e : setSub x y d m2 with
    | none => rw [e] at h; exact h.elim
    | some m3 => rw [e] at h; exact h
  · cases e : setSub x y d m2 with
    | none => rw [e] at h; exact h.elim
    | some m3 => rw [e] at h; exact h
@[simp] theorem a_fld {o : E} {f : Nat} {d : D} : (asgT cx (.fld o f) d r m).wp QR ↔ (evE cx o r m).wp fun x m1 => osat (setFld x f d m1) fun m3 => QR r m3 := by
  rw [asgT]
  simp only [wpBind]
  constructor <;> refine fun h => h.mono fun x m1 h => ?_
  · cases e : setFld x f d m1 with
    | none => rw [e] at h; exact h.elim
    | some m3 => rw [e] at h; exact h
  · cases e : setFld x f d m1 with
    | none => rw [e] at h; exact h.elim
    | some m3 => rw [e] at h; exact h
@[simp] theorem a_tupT {ts : List T} {ds : List D} : (asgT cx (.tup ts) (.tup ds) r m).wp QR ↔ (asgTs cx ts ds r m).wp QR := by rw [asgT]
@[simp] theorem a_nilT : (asgTs cx [] [] r m).wp QR ↔ QR r m := by rw [asgTs]; rfl
@[simp] theorem a_consT {t : T} {ts : List T} {d : D} {ds : List D} : (asgTs cx (t :: ts) (d :: ds) r m).wp QR ↔ (asgT cx t d r m).wp fun r1 m1 => (asgTs cx ts ds r1 m1).wp QR := by rw [asgTs]; simp
end
/-! ### == -/
theorem py_int {m : Mem} {i : Int} : pyOk m (.int i) = some (.int i) := by
  simp [pyOk, toPy, SeqAt.shaped, PyData.canLay0, PyData.depth]
@[simp] theorem eqI {m : Mem} {i j : Int} : eqD m (.int i) (.int j) = some (decide (i = j)) := by
  simp only [eqD, py_int, Option.bind_some, PyData.eqv]
  rfl
theorem pyOk_lay {m : Mem} {x : D} {p : PyData} (h : pyOk m x = some p) : p.canLay0 = true := by
  unfold pyOk at h
  cases e : toPy m 8 x with
  | none => rw [e] at h; cases h
  | some q =>
    rw [e] at h
    simp only [Option.bind_some] at h
    split at h
    · rename_i z
      cases h
      exact SeqAt.canLay_of_shaped z
    · cases h
theorem eqSame {m : Mem} {x y : D} {p : PyData} (h : pyOk m x = some p) (h2 : pyOk m y = some p) : eqD m x y = some true := by
  simp only [eqD, h, h2, Option.bind_some]
  rw [SeqAt.eqv_refl p (pyOk_lay h)]
/-- the package's defs stand at their numbers -/
structure Pk (G : Prog) : Prop where
  p9 : G.fns 9 = some fn9
  p10 : G.fns 10 = some fn10
  p11 : G.fns 11 = some fn11
  p13 : G.fns 13 = some fn13
  p14 : G.fns 14 = some fn14
  p15 : G.fns 15 = some fn15
  p16 : G.fns 16 = some fn16
  p17 : G.fns 17 = some fn17
  p18 : G.fns 18 = some fn18
  m1 : G.meth 14 1 = some 14
  m2 : G.meth 14 2 = some 15
  m3 : G.meth 14 3 = some 16
  m4 : G.meth 14 4 = some 17
  i : G.init 14 = some 13
/-- and those that haul -/
structure PkH (G : Prog) : Prop extends Pk G where
  p23 : G.fns 23 = some fn23
  p24 : G.fns 24 = some fn24
  p25 : G.fns 25 = some fn25
  p28 : G.fns 28 = some fn28
  p30 : G.fns 30 = some fn30
instance {G : Prog} : CoeOut (PkH G) (Pk G) := ⟨fun h => h.toPk⟩
section
variable {G : Prog}
@[simp] theorem mk_call {n : Nat} {f : Nat} {ds : List D} {m : Mem} : (Cx.mk (callN G n) G.meth G.init).call f ds m = callN G n f ds m := rfl
theorem is_int (P : Pk G) {n : Nat} {v lo hi : Int} {m : Mem} {Q : D → Mem → Prop} : (callN G (n + 1) 9 [.int v, .int lo, .int hi] m).wp Q ↔ Q (.bl (decide (lo ≤ v) && decide (v ≤ hi))) m := by
  have key := (w_isint (n := n) (v := v) (lo := lo) (hi := hi) (m := m) (Q := fun a' m' => a' = .bl (decide (lo ≤ v) && decide (v ≤ hi)) ∧ m' = m) P.p9 ⟨rfl, rfl⟩).ok
  obtain ⟨a2, m2, e2, rfl, rfl⟩ := key
  rw [e2]; rfl
theorem is_rope (P : Pk G) {n c : Nat} {x : Rope} {m : Mem} {Q : D → Mem → Prop} (ok : RopeOk c x) (h : Q (.bl true) m) : (callN G (n + 2) 10 [.int c, ropeD x] m).wp Q := by
  refine wp_call P.p10 rfl ?_
  obtain ⟨f, r, l⟩ := x
  obtain ⟨h1, h2, h3, h4, h5⟩ := ok
  simp only at h1 h2 h3 h4 h5
  have g2 : (f : Int) ≤ (c : Int) - 1 := by omega
  have g3 : (r : Int) ≤ (c : Int) - 1 := by omega
  have g4 : ¬ (f : Int) = (r : Int) := by omega
  simp [fn10, startS, isiV, boolOf, cmpV, ropeD, bltV, is_int P, binV, intOf, g2, g3, g4, h4, h5]
  exact h
theorem nth_en {xs : List D} {i : Nat} {m : Mem} : (It.en (.fix xs)).nth i m = some ((xs.zipIdx.map fun p => D.tup [.int p.2, p.1])[i]?) := by
  simp [It.nth, Src.all, List.getElem?_map]
  cases h : xs[i]? <;> simp [h, List.getElem?_zipIdx]
theorem chk_fleet (P : Pk G) {n : Nat} {F : Fleet} {m : Mem} {Q : D → Mem → Prop} (ok : F.Ok) (h : Q .non m) : (callN G (n + 3) 11 [F.d] m).wp Q := by
  refine wp_call P.p11 rfl ?_
  have g1 : (1 : Int) ≤ (F.n : Int) := by have := ok.n1; omega
  have g2 : (F.n : Int) ≤ 8 := by have := ok.n8; omega
  simp [fn11, startS, isiV, boolOf, cmpV, Fleet.d, bltV, is_int P, g1, g2]
  refine w_forS ?_
  simp [mkIt, srcOf, endIt]
  refine ws_for (fun _ r m1 => m1 = m ∧ ∃ a b, r = [some F.d, some (.int F.n), some (.tup (F.rs.map ropeD)), a, b]) ((F.rs.map ropeD).zipIdx.map fun p => D.tup [.int p.2, p.1]) (fun _ _ _ _ => nth_en) ⟨rfl, none, none, rfl⟩ (by have := ok.len; simp [FU]; omega) ?_ ?_
  · rintro i r m1 x hx ⟨rfl, a, b, rfl⟩
    simp only [List.getElem?_map, List.getElem?_zipIdx, Option.map_eq_some_iff] at hx
    obtain ⟨y, ⟨z, ⟨w, hw, rfl⟩, rfl⟩, rfl⟩ := hx
    have hi := (List.getElem?_eq_some_iff.mp hw).1
    have hl := ok.len
    have ok1 := ok.rp w (List.mem_of_getElem? hw)
    refine ⟨_, by simp; rfl, ?_⟩
    have g3 : ¬ (i : Int) = 40 := by omega
    simp [cmpV, boolOf, g3]
    refine is_rope P ok1 ?_
    simp
  · rintro r m1 ⟨rfl, a, b, rfl⟩
    simpa using h
end
end HR

set_option linter.all false
set_option maxRecDepth 100000
set_option maxHeartbeats 1000000
/-! HR, mirror 3: the table of chains, as a list of entries. -/
namespace HR
open PySem
abbrev Ents := List ((Nat × Nat) × Int)
def k2 (p : Nat × Nat) : List Key := [.inl p.1, .inl p.2]
theorem k2_inj {p q : Nat × Nat} : k2 p = k2 q ↔ p = q := by
  obtain ⟨a, b⟩ := p
  obtain ⟨c, d⟩ := q
  simp [k2, Int.ofNat_inj]
def kvsOf (T : Ents) : List (List Key × D) := T.map fun e => (k2 e.1, .int e.2)
def look (T : Ents) (p : Nat × Nat) : Option Int := (T.find? fun e => decide (e.1 = p)).map (·.2)
def put (T : Ents) (p : Nat × Nat) (l : Int) : Ents := if (T.any fun e => decide (e.1 = p)) = true then T.map (fun e => if e.1 = p then (e.1, l) else e) else T ++ [(p, l)]
theorem getK_of (T : Ents) (p : Nat × Nat) : getK (kvsOf T) (k2 p) = (look T p).map .int := by
  induction T with
  | nil => rfl
  | cons e T ih =>
    unfold getK look kvsOf at *
    by_cases h : e.1 = p
    · simp [h]
    · have h2 : ¬ k2 e.1 = k2 p := fun z => h (k2_inj.mp z)
      simpa [List.find?_cons, h, h2] using ih
theorem putK_of (T : Ents) (p : Nat × Nat) (l : Int) : putK (kvsOf T) (k2 p) (.int l) = kvsOf (put T p l) := by
  have ha : ((kvsOf T).any fun kv => decide (kv.1 = k2 p)) = T.any fun e => decide (e.1 = p) := by
    simp [kvsOf, List.any_map, Function.comp_def, k2_inj]
  unfold putK put
  rw [ha]
  split
  · simp only [kvsOf, List.map_map]
    refine List.map_congr_left fun e _ => ?_
    by_cases h : e.1 = p
    · simp [h]
    · have h2 : ¬ k2 e.1 = k2 p := fun z => h (k2_inj.mp z)
      simp [h, h2]
  · simp [kvsOf]
def offerT (T : Ents) (p : Nat × Nat) (l : Int) : Ents :=
  match look T p with
  | none => put T p l
  | some o => if l < o then put T p l else T
def before (T : Ents) (m : Nat) : List (Nat × Int) := T.filterMap fun e => if e.1.2 = m then some (e.1.1, e.2) else none
def behind (T : Ents) (m : Nat) : List (Nat × Int) := T.filterMap fun e => if e.1.1 = m then some (e.1.2, e.2) else none
def innerT (f : Nat × Int) (B : List (Nat × Int)) (T : Ents) : Ents := B.foldl (fun T r => offerT T (f.1, r.1) (f.2 + r.2)) T
def outerT (A B : List (Nat × Int)) (T : Ents) : Ents := A.foldl (fun T f => innerT f B T) T
def extendT (T : Ents) (m : Nat) : Ents := outerT (before T m) (behind T m) T
/-- keys of a table of n barges, each once -/
structure Tw (n : Nat) (T : Ents) : Prop where
  nd : (T.map (·.1)).Nodup
  rg : ∀ e ∈ T, e.1.1 < n ∧ e.1.2 < n
theorem nodup_le {α : Type} [DecidableEq α] : ∀ {l l' : List α}, l.Nodup → (∀ x ∈ l, x ∈ l') → l.length ≤ l'.length
  | [], l', _, _ => Nat.zero_le _
  | a :: l, l', nd, h => by
    have ha := h a List.mem_cons_self
    have nd2 := List.nodup_cons.mp nd
    have := nodup_le (l := l) (l' := l'.erase a) nd2.2 fun x hx => (List.mem_erase_of_ne (fun z => nd2.1 (by rw [← z]; exact hx))).mpr (h x (List.mem_cons_of_mem _ hx))
    rw [List.length_erase_of_mem ha] at this
    have := List.length_pos_of_mem ha
    simp; omega
theorem Tw.len {n : Nat} {T : Ents} (w : Tw n T) : T.length ≤ n * n := by
  have h : ∀ x ∈ T.map (·.1), x ∈ (List.range n).flatMap fun i => (List.range n).map fun j => (i, j) := fun x hx => by
    obtain ⟨e, he, rfl⟩ := List.mem_map.mp hx
    obtain ⟨h1, h2⟩ := w.rg e he
    simp only [List.mem_flatMap, List.mem_range, List.mem_map]
    exact ⟨e.1.1, h1, e.1.2, h2, rfl⟩
  have := nodup_le w.nd h
  simp [List.length_flatMap] at this
  have e : ((List.range n).map fun _ => n).sum = n * n := by
    have : ∀ k : Nat, ((List.range k).map fun _ => n).sum = k * n := fun k => by
      induction k with
      | zero => simp
      | succ k ih => rw [List.range_succ, List.map_append, List.sum_append, ih]; simp [Nat.succ_mul]
    exact this n
  simpa [e] using this
theorem put_keys (T : Ents) (p : Nat × Nat) (l : Int) : (put T p l).map (·.1) = if (T.any fun e => decide (e.1 = p)) = true then T.map (·.1) else T.map (·.1) ++ [p] := by
  unfold put
  split
  · rw [List.map_map]
    refine List.map_congr_left fun e _ => ?_
    simp only [Function.comp]
    split <;> rfl
  · simp
theorem Tw.put {n : Nat} {T : Ents} (w : Tw n T) {p : Nat × Nat} {l : Int} (h1 : p.1 < n) (h2 : p.2 < n) : Tw n (HR.put T p l) := by
  refine ⟨?_, fun e he => ?_⟩
  · rw [put_keys]
    split
    · exact w.nd
    · rename_i z
      rw [List.nodup_append]
      refine ⟨w.nd, by simp, fun a ha b hb => ?_⟩
      simp only [List.mem_singleton] at hb
      subst hb
      rintro rfl
      apply z
      obtain ⟨e, he, rfl⟩ := List.mem_map.mp ha
      exact List.any_eq_true.mpr ⟨e, he, by simp⟩
  · have hk : e.1 ∈ (HR.put T p l).map (·.1) := List.mem_map.mpr ⟨e, he, rfl⟩
    rw [put_keys] at hk
    have old : e.1 ∈ T.map (·.1) → e.1.1 < n ∧ e.1.2 < n := fun h => by
      obtain ⟨e', he', z⟩ := List.mem_map.mp h
      rw [← z]; exact w.rg e' he'
    split at hk
    · exact old hk
    · rcases List.mem_append.mp hk with z | z
      · exact old z
      · simp only [List.mem_singleton] at z
        rw [z]; exact ⟨h1, h2⟩
theorem Tw.offer {n : Nat} {T : Ents} (w : Tw n T) {p : Nat × Nat} {l : Int} (h1 : p.1 < n) (h2 : p.2 < n) : Tw n (offerT T p l) := by
  unfold offerT
  split
  · exact w.put h1 h2
  · split
    · exact w.put h1 h2
    · exact w
theorem Tw.inner {n : Nat} {f : Nat × Int} {B : List (Nat × Int)} (hf : f.1 < n) (hB : ∀ r ∈ B, r.1 < n) : ∀ {T : Ents}, Tw n T → Tw n (innerT f B T) := by
  induction B with
  | nil => exact fun w => w
  | cons r B ih => exact fun w => ih (fun x hx => hB x (List.mem_cons_of_mem _ hx)) (w.offer (p := (f.1, r.1)) hf (hB r List.mem_cons_self))
theorem Tw.outer {n : Nat} {A B : List (Nat × Int)} (hA : ∀ r ∈ A, r.1 < n) (hB : ∀ r ∈ B, r.1 < n) : ∀ {T : Ents}, Tw n T → Tw n (outerT A B T) := by
  induction A with
  | nil => exact fun w => w
  | cons f A ih => exact fun w => ih (fun x hx => hA x (List.mem_cons_of_mem _ hx)) (w.inner (hA f List.mem_cons_self) hB)
theorem Tw.before {n : Nat} {T : Ents} (w : Tw n T) (m : Nat) : ∀ r ∈ HR.before T m, r.1 < n := by
  intro r hr
  simp only [HR.before, List.mem_filterMap] at hr
  obtain ⟨e, he, h⟩ := hr
  split at h
  · cases h; exact (w.rg e he).1
  · cases h
theorem Tw.behind {n : Nat} {T : Ents} (w : Tw n T) (m : Nat) : ∀ r ∈ HR.behind T m, r.1 < n := by
  intro r hr
  simp only [HR.behind, List.mem_filterMap] at hr
  obtain ⟨e, he, h⟩ := hr
  split at h
  · cases h; exact (w.rg e he).2
  · cases h
theorem Tw.extend {n : Nat} {T : Ents} (w : Tw n T) (m : Nat) : Tw n (extendT T m) := w.outer (w.before m) (w.behind m)
theorem set_same {m : Mem} {k : Nat} {x : O} (h : m[k]? = some x) : m.set k x = m := by
  apply List.ext_getElem?
  intro i
  by_cases e : k = i
  · subst e
    rw [List.getElem?_set_self (List.getElem?_eq_some_iff.mp h).1, h]
  · rw [List.getElem?_set_ne e]
theorem keysOf_k2 (p : Nat × Nat) : keysOf (.tup [.int p.1, .int p.2]) = some (k2 p) := by
  simp [keysOf, keyOf, k2]
section
variable {G : Prog}
/-- the table's object: its attributes -/
structure TabAt (m : Mem) (o kd : Nat) (F : Fleet) (T : Ents) (lk : Bool) : Prop where
  ob : m[o]? = some (.ins 14 [(7, .int F.n), (6, .tup (F.rs.map ropeD)), (5, .ref kd)])
  dt : m[kd]? = some (.dT lk (kvsOf T))
theorem offer_w (P : Pk G) {n o kd i j : Nat} {F : Fleet} {T : Ents} {l : Int} {m : Mem} {Q : D → Mem → Prop} (t : TabAt m o kd F T false) (hz : T.length < big) (h : Q .non (m.set kd (.dT false (kvsOf (offerT T (i, j) l))))) :
    (callN G (n + 1) 14 [.ref o, .tup [.int i, .int j], .int l] m).wp Q := by
  refine wp_call P.p14 rfl ?_
  have g0 : keysOf (.tup [.int i, .int j]) = some (k2 (i, j)) := keysOf_k2 (i, j)
  have hl : (kvsOf T).length < big := by simpa [kvsOf] using hz
  have g1 : dictAt m kd (.tup [.int i, .int j]) = some ((look T (i, j)).map .int) := by simp [dictAt, t.dt, g0, getK_of]
  have g2 : listAt m kd = none := by simp [listAt, t.dt]
  have g3 : ∀ v : Int, setSub (.ref kd) (.tup [.int i, .int j]) (.int v) m = some (m.set kd (.dT false (kvsOf (put T (i, j) v)))) := fun v => by
    simp [setSub, t.dt, dcPut, g0, hl, putK_of]
  unfold offerT at h
  cases hg : look T (i, j) with
  | none =>
    rw [hg] at h
    simp [fn14, startS, boolOf, cmpV, fldV, t.ob, inD, g1, g2, hg, g3, List.lookup]
    exact h
  | some ol =>
    rw [hg] at h
    simp only at h
    by_cases hlt : l < ol
    · rw [if_pos hlt] at h
      simp [fn14, startS, boolOf, cmpV, fldV, t.ob, inD, g1, g2, hg, g3, List.lookup, idxV, hlt]
      exact h
    · rw [if_neg hlt, set_same t.dt] at h
      simp [fn14, startS, boolOf, cmpV, fldV, t.ob, inD, g1, g2, hg, g3, List.lookup, idxV, hlt]
      exact h
end
end HR

set_option linter.all false
set_option maxRecDepth 100000
set_option maxHeartbeats 1000000
/-! HR, mirror 4: the table of chains is made. -/
namespace HR
open PySem
section
variable {m : Mem} {t : Mem} {k : Nat} {x y z : O}
theorem get0 : (m ++ x :: t)[m.length]? = some x := by simp
theorem get1 : (m ++ x :: y :: t)[m.length + 1]? = some y := by
  rw [List.getElem?_append_right (by omega)]; simp
theorem set0 : (m ++ x :: t).set m.length z = m ++ z :: t := by simp
theorem set1 : (m ++ x :: y :: t).set (m.length + 1) z = m ++ x :: z :: t := by
  rw [List.set_append_right _ _ (by omega)]; simp
theorem getLt (h : k < m.length) : (m ++ t)[k]? = m[k]? := List.getElem?_append_left h
theorem setLt (h : k < m.length) : (m ++ t).set k z = m.set k z ++ t := List.set_append_left _ _ h
end
theorem nthT {m : Mem} {k i : Nat} {kvs : List (List Key × D)} (h : m[k]? = some (.dT true kvs)) : (It.items k).nth i m = some (kvs[i]?.map fun kv => .tup [.tup (kv.1.map keyD), kv.2]) := by
  simp [It.nth, h]
theorem nthK {m : Mem} {k i : Nat} {kvs : List (Key × D)} (h : m[k]? = some (.dK true kvs)) : (It.items k).nth i m = some (kvs[i]?.map fun kv => .tup [keyD kv.1, kv.2]) := by
  simp [It.nth, h]
def kB (b : List (Nat × Int)) : List (Key × D) := b.map fun p => (.inl p.1, .int p.2)
theorem take_snoc {α : Type} {l : List α} {i : Nat} {x : α} (h : l[i]? = some x) : l.take (i + 1) = l.take i ++ [x] := by
  rw [List.take_succ, h]; rfl
theorem putK_new {κ : Type} [DecidableEq κ] {kvs : List (κ × D)} {k : κ} {v : D} (h : ∀ p ∈ kvs, p.1 ≠ k) : putK kvs k v = kvs ++ [(k, v)] := by
  unfold putK
  rw [if_neg]
  intro z
  obtain ⟨p, hp, e⟩ := List.any_eq_true.mp z
  exact h p hp (of_decide_eq_true e)
theorem before_snoc {T : Ents} {m i : Nat} {e : (Nat × Nat) × Int} (h : T[i]? = some e) : before (T.take (i + 1)) m = before (T.take i) m ++ if e.1.2 = m then [(e.1.1, e.2)] else [] := by
  rw [take_snoc h]
  unfold before
  rw [List.filterMap_append]
  congr 1
  by_cases hm : e.1.2 = m <;> simp [hm]
theorem behind_snoc {T : Ents} {m i : Nat} {e : (Nat × Nat) × Int} (h : T[i]? = some e) : behind (T.take (i + 1)) m = behind (T.take i) m ++ if e.1.1 = m then [(e.1.2, e.2)] else [] := by
  rw [take_snoc h]
  unfold behind
  rw [List.filterMap_append]
  congr 1
  by_cases hm : e.1.1 = m <;> simp [hm]
/-- a key that was there once is not there twice -/
theorem fresh_key {T : Ents} (nd : (T.map (·.1)).Nodup) {i : Nat} {e : (Nat × Nat) × Int} (h : T[i]? = some e) : ∀ e' ∈ T.take i, e'.1 ≠ e.1 := by
  intro e' he' z
  obtain ⟨j, hj⟩ := List.mem_iff_getElem?.mp he'
  have hlt : j < i := by
    have := (List.getElem?_eq_some_iff.mp hj).1
    simp at this; omega
  rw [List.getElem?_take_of_lt hlt] at hj
  have h1 : (T.map (·.1))[j]? = some e.1 := by rw [List.getElem?_map, hj]; simp [z]
  have h2 : (T.map (·.1))[i]? = some e.1 := by rw [List.getElem?_map, h]; rfl
  obtain ⟨a1, b1⟩ := List.getElem?_eq_some_iff.mp h1
  obtain ⟨a2, b2⟩ := List.getElem?_eq_some_iff.mp h2
  have := (List.getElem_inj nd).mp (b1.trans b2.symm)
  omega
theorem before_fresh {T : Ents} (nd : (T.map (·.1)).Nodup) {i : Nat} {e : (Nat × Nat) × Int} (h : T[i]? = some e) : ∀ p ∈ kB (before (T.take i) e.1.2), p.1 ≠ (.inl (e.1.1 : Int) : Key) := by
  intro p hp z
  simp only [kB, before, List.mem_map, List.mem_filterMap] at hp
  obtain ⟨q, ⟨e', he', h1⟩, rfl⟩ := hp
  split at h1
  · rename_i h2
    cases h1
    simp only [Sum.inl.injEq, Int.ofNat_inj] at z
    exact fresh_key nd h e' he' (Prod.ext z h2)
  · cases h1
theorem behind_fresh {T : Ents} (nd : (T.map (·.1)).Nodup) {i : Nat} {e : (Nat × Nat) × Int} (h : T[i]? = some e) : ∀ p ∈ kB (behind (T.take i) e.1.1), p.1 ≠ (.inl (e.1.2 : Int) : Key) := by
  intro p hp z
  simp only [kB, behind, List.mem_map, List.mem_filterMap] at hp
  obtain ⟨q, ⟨e', he', h1⟩, rfl⟩ := hp
  split at h1
  · rename_i h2
    cases h1
    simp only [Sum.inl.injEq, Int.ofNat_inj] at z
    exact fresh_key nd h e' he' (Prod.ext h2 z)
  · cases h1
section
variable {G : Prog}
theorem TabAt.lt {m : Mem} {o kd : Nat} {F : Fleet} {T : Ents} {lk : Bool} (t : TabAt m o kd F T lk) : o < m.length ∧ kd < m.length := ⟨(List.getElem?_eq_some_iff.mp t.ob).1, (List.getElem?_eq_some_iff.mp t.dt).1⟩
theorem TabAt.app {m : Mem} {o kd : Nat} {F : Fleet} {T : Ents} {lk : Bool} (t : TabAt m o kd F T lk) (x : Mem) : TabAt (m ++ x) o kd F T lk := ⟨by rw [getLt t.lt.1]; exact t.ob, by rw [getLt t.lt.2]; exact t.dt⟩
theorem TabAt.ne {m : Mem} {o kd : Nat} {F : Fleet} {T : Ents} {lk : Bool} (t : TabAt m o kd F T lk) : o ≠ kd := fun z => by
  have := t.ob
  rw [z, t.dt] at this; cases this
theorem TabAt.set {m : Mem} {o kd : Nat} {F : Fleet} {T T' : Ents} {lk l2 : Bool} (t : TabAt m o kd F T lk) : TabAt (m.set kd (.dT l2 (kvsOf T'))) o kd F T' l2 := ⟨by rw [List.getElem?_set_ne t.ne.symm]; exact t.ob, List.getElem?_set_self t.lt.2⟩
/-- {front: length for (front, end), length in table.items() if end == middle}, and the other -/
theorem before_w {cx : Cx} {o kd mid : Nat} {F : Fleet} {T : Ents} {m : Mem} {r : Sl} {Q : D → Mem → Prop} (t : TabAt m o kd F T false) (nd : (T.map (·.1)).Nodup) (hz : T.length < 1000) (hr : ∃ a2 a3 a4 a5 a6 a7 a8 a9, r = [some (.ref o), some (.int mid), a2, a3, a4, a5, a6, a7, a8, a9])
    (h : Q (.ref m.length) (m ++ [.dK false (kB (before T mid))])) :
    (evE cx (.dc false [5, 4, 8] .items [.fld (.var 0) 5] (.tup [.tup [.name 4, .name 8], .name 5]) [.cmp .Eq (.var 8) (.var 1)] (.var 4) (.var 5)) r m).wp Q := by
  obtain ⟨a2, a3, a4, a5, a6, a7, a8, a9, rfl⟩ := hr
  refine w_dc ?_
  have e1 : mkIt .items [.ref kd] m = some (.items kd, m.set kd (.dT true (kvsOf T))) := by simp [mkIt, t.dt, setLk]
  simp [fldV, t.ob, List.lookup, e1]
  have hl : kd < m.length := t.lt.2
  have hl2 : kd < (m.set kd (.dT true (kvsOf T))).length := by simpa using hl
  refine wp_dc (fun i m1 => i ≤ T.length ∧ m1 = m.set kd (.dT true (kvsOf T)) ++ [.dK false (kB (before (T.take i) mid))]) (T.map fun e => D.tup [.tup [.int e.1.1, .int e.1.2], .int e.2]) ?_ ⟨Nat.zero_le _, by simp [before, kB]⟩ (by simp [FU]; omega) ?_ ?_
  · rintro i m1 ⟨_, rfl⟩
    have : (m.set kd (.dT true (kvsOf T)) ++ [.dK false (kB (before (T.take i) mid))])[kd]? = some (.dT true (kvsOf T)) := by rw [getLt hl2, List.getElem?_set_self hl]
    rw [nthT this]
    simp only [kvsOf, List.getElem?_map]
    cases T[i]? <;> simp [k2, keyD]
  · rintro i m1 x hx ⟨hi, rfl⟩
    simp only [List.getElem?_map, Option.map_eq_some_iff] at hx
    obtain ⟨e, he, rfl⟩ := hx
    have hlt := (List.getElem?_eq_some_iff.mp he).1
    refine w_turnD (by simp [wipeS]; rfl) ?_
    have hm : (m.set kd (.dT true (kvsOf T)) ++ [.dK false (kB (before (T.take i) mid))])[m.length]? = some (.dK false (kB (before (T.take i) mid))) := by
      have := get0 (m := m.set kd (.dT true (kvsOf T))) (x := .dK false (kB (before (T.take i) mid))) (t := [])
      simpa using this
    by_cases hc : e.1.2 = mid
    · have hc2 : ((e.1.2 : Nat) : Int) = (mid : Int) := by omega
      have hb : (kB (before (T.take i) mid)).length < big := by
        have h1 : (before (T.take i) mid).length ≤ (T.take i).length := List.length_filterMap_le _ _
        have hbig : big = 1000000 := rfl
        simp at h1
        simp [kB]; omega
      have hf := before_fresh nd he
      rw [hc] at hf
      simp only [w_cons, w_cmp, w_var, w_nil]
      simp [cmpV, condB, hc2]
      refine ⟨?_, by omega⟩
      simp only [dcPut, hm, keyOf, Option.bind_some, hb, if_true]
      rw [putK_new hf, before_snoc he, if_pos hc]
      have := set0 (m := m.set kd (.dT true (kvsOf T))) (x := .dK false (kB (before (T.take i) mid))) (t := []) (z := .dK false (kB (before (T.take i) mid) ++ [(.inl (e.1.1 : Int), .int e.2)]))
      simp only [List.length_set] at this
      rw [this]
      simp [kB]
    · have hc2 : ¬ ((e.1.2 : Nat) : Int) = (mid : Int) := by omega
      simp only [w_cons, w_cmp, w_var, w_nil]
      simp [cmpV, condB, hc2]
      rw [before_snoc he, if_neg hc]
      simp; omega
  · rintro m1 ⟨_, rfl⟩
    have e2 : (m.set kd (.dT true (kvsOf T)) ++ [.dK false (kB (before (T.take (T.map fun e => D.tup [.tup [.int e.1.1, .int e.1.2], .int e.2]).length) mid))])[kd]? = some (.dT true (kvsOf T)) := by rw [getLt hl2, List.getElem?_set_self hl]
    simp only [endIt, setLk, e2]
    rw [setLt hl2, List.set_set, set_same t.dt]
    simpa using h
theorem behind_w {cx : Cx} {o kd mid : Nat} {F : Fleet} {T : Ents} {m : Mem} {r : Sl} {Q : D → Mem → Prop} (t : TabAt m o kd F T false) (nd : (T.map (·.1)).Nodup) (hz : T.length < 1000) (hr : ∃ a2 a3 a4 a5 a6 a7 a8 a9, r = [some (.ref o), some (.int mid), a2, a3, a4, a5, a6, a7, a8, a9])
    (h : Q (.ref m.length) (m ++ [.dK false (kB (behind T mid))])) :
    (evE cx (.dc false [5, 9, 6] .items [.fld (.var 0) 5] (.tup [.tup [.name 9, .name 6], .name 5]) [.cmp .Eq (.var 9) (.var 1)] (.var 6) (.var 5)) r m).wp Q := by
  obtain ⟨a2, a3, a4, a5, a6, a7, a8, a9, rfl⟩ := hr
  refine w_dc ?_
  have e1 : mkIt .items [.ref kd] m = some (.items kd, m.set kd (.dT true (kvsOf T))) := by simp [mkIt, t.dt, setLk]
  simp [fldV, t.ob, List.lookup, e1]
  have hl : kd < m.length := t.lt.2
  have hl2 : kd < (m.set kd (.dT true (kvsOf T))).length := by simpa using hl
  refine wp_dc (fun i m1 => i ≤ T.length ∧ m1 = m.set kd (.dT true (kvsOf T)) ++ [.dK false (kB (behind (T.take i) mid))]) (T.map fun e => D.tup [.tup [.int e.1.1, .int e.1.2], .int e.2]) ?_ ⟨Nat.zero_le _, by simp [behind, kB]⟩ (by simp [FU]; omega) ?_ ?_
  · rintro i m1 ⟨_, rfl⟩
    have : (m.set kd (.dT true (kvsOf T)) ++ [.dK false (kB (behind (T.take i) mid))])[kd]? = some (.dT true (kvsOf T)) := by rw [getLt hl2, List.getElem?_set_self hl]
    rw [nthT this]
    simp only [kvsOf, List.getElem?_map]
    cases T[i]? <;> simp [k2, keyD]
  · rintro i m1 x hx ⟨hi, rfl⟩
    simp only [List.getElem?_map, Option.map_eq_some_iff] at hx
    obtain ⟨e, he, rfl⟩ := hx
    have hlt := (List.getElem?_eq_some_iff.mp he).1
    refine w_turnD (by simp [wipeS]; rfl) ?_
    have hm : (m.set kd (.dT true (kvsOf T)) ++ [.dK false (kB (behind (T.take i) mid))])[m.length]? = some (.dK false (kB (behind (T.take i) mid))) := by
      have := get0 (m := m.set kd (.dT true (kvsOf T))) (x := .dK false (kB (behind (T.take i) mid))) (t := [])
      simpa using this
    by_cases hc : e.1.1 = mid
    · have hc2 : ((e.1.1 : Nat) : Int) = (mid : Int) := by omega
      have hb : (kB (behind (T.take i) mid)).length < big := by
        have h1 : (behind (T.take i) mid).length ≤ (T.take i).length := List.length_filterMap_le _ _
        have hbig : big = 1000000 := rfl
        simp at h1
        simp [kB]; omega
      have hf := behind_fresh nd he
      rw [hc] at hf
      simp only [w_cons, w_cmp, w_var, w_nil]
      simp [cmpV, condB, hc2]
      refine ⟨?_, by omega⟩
      simp only [dcPut, hm, keyOf, Option.bind_some, hb, if_true]
      rw [putK_new hf, behind_snoc he, if_pos hc]
      have := set0 (m := m.set kd (.dT true (kvsOf T))) (x := .dK false (kB (behind (T.take i) mid))) (t := []) (z := .dK false (kB (behind (T.take i) mid) ++ [(.inl (e.1.2 : Int), .int e.2)]))
      simp only [List.length_set] at this
      rw [this]
      simp [kB]
    · have hc2 : ¬ ((e.1.1 : Nat) : Int) = (mid : Int) := by omega
      simp only [w_cons, w_cmp, w_var, w_nil]
      simp [cmpV, condB, hc2]
      rw [behind_snoc he, if_neg hc]
      simp; omega
  · rintro m1 ⟨_, rfl⟩
    have e2 : (m.set kd (.dT true (kvsOf T)) ++ [.dK false (kB (behind (T.take (T.map fun e => D.tup [.tup [.int e.1.1, .int e.1.2], .int e.2]).length) mid))])[kd]? = some (.dT true (kvsOf T)) := by rw [getLt hl2, List.getElem?_set_self hl]
    simp only [endIt, setLk, e2]
    rw [setLt hl2, List.set_set, set_same t.dt]
    simpa using h
end
end HR

set_option linter.all false
set_option maxRecDepth 100000
set_option maxHeartbeats 1000000
/-! HR, mirror 5: extend, the table made. -/
namespace HR
open PySem
section
variable {G : Prog}
theorem kB_get {b : List (Nat × Int)} {i : Nat} : ((kB b)[i]?.map fun kv => D.tup [keyD kv.1, kv.2]) = (b.map fun p => D.tup [.int p.1, .int p.2])[i]? := by
  simp only [kB, List.getElem?_map]
  cases b[i]? <;> simp [keyD]
theorem Tw.small {n : Nat} {T : Ents} (w : Tw n T) (h8 : n ≤ 8) : T.length ≤ 64 := Nat.le_trans w.len (Nat.mul_le_mul h8 h8)
/-- the loops of extend, the two dicts at the end of the store -/
theorem ext_inner (P : Pk G) {n o kd : Nat} {F : Fleet} {A B : List (Nat × Int)} {f : Nat × Int} {T : Ents} {m : Mem} {Q : Fl → Sl → Mem → Prop} {a1 a2 a3 a6 a7 a8 a9 : Option D} (w : Tw F.n T) (h8 : F.n ≤ 8) (hf : f.1 < F.n) (hB : ∀ r ∈ B, r.1 < F.n) (hb : B.length ≤ 64)
    (t : TabAt m o kd F T false)
    (h : ∀ b6 b7, Q .nx [some (.ref o), a1, a2, a3, some (.int f.1), some (.int f.2), b6, b7, a8, a9] (m.set kd (.dT false (kvsOf (innerT f B T))) ++ [.dK true (kB A), .dK true (kB B)])) :
    (forLoop (.items (m.length + 1)) (.tup [.name 6, .name 7]) (fun r m => evSs ⟨callN G (n + 1), G.meth, G.init⟩ [.ex (.meth 1 (.var 0) [.tup [.var 4, .var 6], .bin .Add (.var 5) (.var 7)])] r m) FU 0 [some (.ref o), a1, a2, a3, some (.int f.1), some (.int f.2), a6, a7, a8, a9] (m ++ [.dK true (kB A), .dK true (kB B)])).ws Q := by
  have hl : kd < m.length := t.lt.2
  refine ws_for (fun j r m1 => m1 = m.set kd (.dT false (kvsOf (innerT f (B.take j) T))) ++ [.dK true (kB A), .dK true (kB B)] ∧ ∃ b6 b7, r = [some (.ref o), a1, a2, a3, some (.int f.1), some (.int f.2), b6, b7, a8, a9])
    (B.map fun p => D.tup [.int p.1, .int p.2]) ?_ ⟨?_, a6, a7, rfl⟩ (by simp [FU]; omega) ?_ ?_
  · rintro j r m1 ⟨rfl, _⟩
    have := get1 (m := m.set kd (.dT false (kvsOf (innerT f (B.take j) T)))) (x := .dK true (kB A)) (y := .dK true (kB B)) (t := [])
    simp only [List.length_set] at this
    rw [nthK this, kB_get]
  · simp only [List.take_zero, innerT, List.foldl_nil]
    rw [set_same t.dt]
  · rintro j r m1 x hx ⟨rfl, b6, b7, rfl⟩
    simp only [List.getElem?_map, Option.map_eq_some_iff] at hx
    obtain ⟨q, hq, rfl⟩ := hx
    refine ⟨_, by simp; rfl, ?_⟩
    have tj : TabAt (m.set kd (.dT false (kvsOf (innerT f (B.take j) T))) ++ [.dK true (kB A), .dK true (kB B)]) o kd F (innerT f (B.take j) T) false := (t.set (T' := innerT f (B.take j) T)).app _
    have wj : Tw F.n (innerT f (B.take j) T) := w.inner hf fun r hr => hB r (List.mem_of_mem_take hr)
    simp only [w_consS, w_ex]
    refine w_meth ?_
    simp [clsOf, tj.ob, P.m1, binV, big]
    refine offer_w P tj (Nat.lt_of_le_of_lt (wj.small h8) (by decide)) ?_
    have hl2 : kd < (m.set kd (.dT false (kvsOf (innerT f (B.take j) T)))).length := by simpa using hl
    rw [setLt hl2, List.set_set]
    have : innerT f (B.take (j + 1)) T = offerT (innerT f (B.take j) T) (f.1, q.1) (f.2 + q.2) := by
      rw [take_snoc hq]; simp [innerT]
    rw [this]
  · rintro r m1 ⟨rfl, b6, b7, rfl⟩
    simpa using h b6 b7
theorem ext_outer (P : Pk G) {n o kd : Nat} {F : Fleet} {A B : List (Nat × Int)} {T : Ents} {m : Mem} {Q : Fl → Sl → Mem → Prop} {a1 a2 a4 a5 a6 a7 a8 a9 : Option D} (w : Tw F.n T) (h8 : F.n ≤ 8) (hA : ∀ r ∈ A, r.1 < F.n) (ha : A.length ≤ 64) (hB : ∀ r ∈ B, r.1 < F.n) (hb : B.length ≤ 64)
    (t : TabAt m o kd F T false)
    (h : ∀ r, Q .nx r (m.set kd (.dT false (kvsOf (outerT A B T))) ++ [.dK true (kB A), .dK false (kB B)])) :
    (forLoop (.items m.length) (.tup [.name 4, .name 5]) (fun r m => evSs ⟨callN G (n + 1), G.meth, G.init⟩ [.forS .items [.var 3] (.tup [.name 6, .name 7]) [.ex (.meth 1 (.var 0) [.tup [.var 4, .var 6], .bin .Add (.var 5) (.var 7)])]] r m) FU 0
      [some (.ref o), a1, a2, some (.ref (m.length + 1)), a4, a5, a6, a7, a8, a9] (m ++ [.dK true (kB A), .dK false (kB B)])).ws Q := by
  have hl : kd < m.length := t.lt.2
  refine ws_for (fun i r m1 => m1 = m.set kd (.dT false (kvsOf (outerT (A.take i) B T))) ++ [.dK true (kB A), .dK false (kB B)] ∧ ∃ a4 a5 a6 a7 a8 a9, r = [some (.ref o), a1, a2, some (.ref (m.length + 1)), a4, a5, a6, a7, a8, a9])
    (A.map fun p => D.tup [.int p.1, .int p.2]) ?_ ⟨?_, a4, a5, a6, a7, a8, a9, rfl⟩ (by simp [FU]; omega) ?_ ?_
  · rintro j r m1 ⟨rfl, _⟩
    have := get0 (m := m.set kd (.dT false (kvsOf (outerT (A.take j) B T)))) (x := .dK true (kB A)) (t := [.dK false (kB B)])
    simp only [List.length_set] at this
    rw [nthK this, kB_get]
  · simp only [List.take_zero, outerT, List.foldl_nil]
    rw [set_same t.dt]
  · rintro i r m1 x hx ⟨rfl, a4, a5, a6, a7, a8, a9, rfl⟩
    simp only [List.getElem?_map, Option.map_eq_some_iff] at hx
    obtain ⟨q, hq, rfl⟩ := hx
    refine ⟨_, by simp; rfl, ?_⟩
    have wi : Tw F.n (outerT (A.take i) B T) := w.outer (fun r hr => hA r (List.mem_of_mem_take hr)) hB
    have ti : TabAt (m.set kd (.dT false (kvsOf (outerT (A.take i) B T)))) o kd F (outerT (A.take i) B T) false := t.set
    have hq1 : q.1 < F.n := hA q (List.mem_of_getElem? hq)
    simp only [w_consS]
    refine w_forS ?_
    have e1 := get1 (m := m.set kd (.dT false (kvsOf (outerT (A.take i) B T)))) (x := .dK true (kB A)) (y := .dK false (kB B)) (t := [])
    have e2 := set1 (m := m.set kd (.dT false (kvsOf (outerT (A.take i) B T)))) (x := .dK true (kB A)) (y := .dK false (kB B)) (z := .dK true (kB B)) (t := [])
    simp only [List.length_set] at e1 e2
    have e3 : mkIt .items [.ref (m.length + 1)] (m.set kd (.dT false (kvsOf (outerT (A.take i) B T))) ++ [.dK true (kB A), .dK false (kB B)]) = some (.items (m.length + 1), m.set kd (.dT false (kvsOf (outerT (A.take i) B T))) ++ [.dK true (kB A), .dK true (kB B)]) := by
      simp only [mkIt, e1, setLk, e2]
    simp [e3]
    have key := ext_inner P (n := n) (m := m.set kd (.dT false (kvsOf (outerT (A.take i) B T)))) (A := A) (B := B) (f := q) (T := outerT (A.take i) B T) (a1 := a1) (a2 := a2) (a3 := some (.ref (m.length + 1))) (a6 := a6) (a7 := a7) (a8 := a8) (a9 := a9) wi h8 hq1 hB hb ti
      (Q := fun fl r' m3 => thenS ⟨callN G (n + 1), G.meth, G.init⟩ [] (fun fl r m' => match fl with
      | .nx => m' = m.set kd (.dT false (kvsOf (outerT (A.take (i + 1)) B T))) ++ [.dK true (kB A), .dK false (kB B)] ∧ ∃ a4 a5 a6 a7 a8 a9, r = [some (.ref o), a1, a2, some (.ref (m.length + 1)), a4, a5, a6, a7, a8, a9]
      | .ct => m' = m.set kd (.dT false (kvsOf (outerT (A.take (i + 1)) B T))) ++ [.dK true (kB A), .dK false (kB B)] ∧ ∃ a4 a5 a6 a7 a8 a9, r = [some (.ref o), a1, a2, some (.ref (m.length + 1)), a4, a5, a6, a7, a8, a9]
      | .bk => Q .nx r m'
      | .rt d => Q (.rt d) r m'
      | .ex _ _ => False) fl r' (endIt (.items (m.length + 1)) m3)) fun b6 b7 => ?_
    · simp only [List.length_set] at key
      exact key
    · simp only [thenNx, w_nilS]
      have e4 : outerT (A.take (i + 1)) B T = innerT q B (outerT (A.take i) B T) := by
        rw [take_snoc hq]; simp [outerT]
      refine ⟨?_, _, _, _, _, _, _, rfl⟩
      have e5 := get1 (m := m.set kd (.dT false (kvsOf (innerT q B (outerT (A.take i) B T))))) (x := .dK true (kB A)) (y := .dK true (kB B)) (t := [])
      have e6 := set1 (m := m.set kd (.dT false (kvsOf (innerT q B (outerT (A.take i) B T))))) (x := .dK true (kB A)) (y := .dK true (kB B)) (z := .dK false (kB B)) (t := [])
      simp only [List.length_set] at e5 e6
      rw [List.set_set, e4]
      simp only [endIt, setLk, e5, e6]
  · rintro r m1 ⟨rfl, _⟩
    simpa using h r
theorem extend_w (P : Pk G) {n o kd mid : Nat} {F : Fleet} {T : Ents} {m : Mem} {Q : D → Mem → Prop} (w : Tw F.n T) (h8 : F.n ≤ 8) (t : TabAt m o kd F T false)
    (h : Q .non (m.set kd (.dT false (kvsOf (extendT T mid))) ++ [.dK false (kB (before T mid)), .dK false (kB (behind T mid))])) : (callN G (n + 2) 15 [.ref o, .int mid] m).wp Q := by
  refine wp_call P.p15 rfl ?_
  have hT := w.small h8
  have hA : (before T mid).length ≤ 64 := Nat.le_trans (List.length_filterMap_le _ _) hT
  have hB : (behind T mid).length ≤ 64 := Nat.le_trans (List.length_filterMap_le _ _) hT
  simp only [fn15, w_consS, w_asg]
  refine before_w t w.nd (by omega) ⟨none, none, none, none, none, none, none, none, rfl⟩ ?_
  simp [startS]
  have t1 := t.app [.dK false (kB (before T mid))]
  refine behind_w t1 w.nd (by omega) ⟨_, _, _, _, _, _, _, _, rfl⟩ ?_
  simp
  refine w_forS ?_
  have e1 := get0 (m := m) (x := .dK false (kB (before T mid))) (t := [.dK false (kB (behind T mid))])
  have e2 := set0 (m := m) (x := .dK false (kB (before T mid))) (t := [.dK false (kB (behind T mid))]) (z := .dK true (kB (before T mid)))
  have e3 : mkIt .items [.ref m.length] (m ++ [.dK false (kB (before T mid)), .dK false (kB (behind T mid))]) = some (.items m.length, m ++ [.dK true (kB (before T mid)), .dK false (kB (behind T mid))]) := by
    simp only [mkIt, e1, setLk, e2]
  simp [e3]
  refine ext_outer P w h8 (w.before mid) hA (w.behind mid) hB t fun r => ?_
  have e5 := get0 (m := m.set kd (.dT false (kvsOf (extendT T mid)))) (x := .dK true (kB (before T mid))) (t := [.dK false (kB (behind T mid))])
  have e6 := set0 (m := m.set kd (.dT false (kvsOf (extendT T mid)))) (x := .dK true (kB (before T mid))) (t := [.dK false (kB (behind T mid))]) (z := .dK false (kB (before T mid)))
  simp only [List.length_set] at e5 e6
  simp only [thenNx, w_nilS, endNx]
  have : endIt (.items m.length) (m.set kd (.dT false (kvsOf (outerT (before T mid) (behind T mid) T))) ++ [.dK true (kB (before T mid)), .dK false (kB (behind T mid))]) = m.set kd (.dT false (kvsOf (extendT T mid))) ++ [.dK false (kB (before T mid)), .dK false (kB (behind T mid))] := by
    show setLk _ _ _ = _
    simp only [setLk]
    rw [show outerT (before T mid) (behind T mid) T = extendT T mid from rfl, e5]
    exact e6
  rw [this]
  exact h
end
end HR

set_option linter.all false
set_option maxRecDepth 100000
set_option maxHeartbeats 1000000
/-! HR, mirror 6: the table made, read. -/
namespace HR
open PySem
def diagT (n : Nat) : Ents := (List.range n).map fun i => ((i, i), 0)
def ropesT (rs : List Rope) (T : Ents) : Ents := rs.foldl (fun T x => offerT T (x.1, x.2.1) x.2.2) T
def stepsT (ms : List Nat) (T : Ents) : Ents := ms.foldl extendT T
def chainT (F : Fleet) : Ents := stepsT (List.range F.n) (ropesT F.rs (diagT F.n))
theorem diag_w (n : Nat) : Tw n (diagT n) := by
  refine ⟨?_, fun e he => ?_⟩
  · unfold diagT
    rw [List.map_map]
    refine List.Pairwise.map _ ?_ (List.nodup_range (n := n))
    intro a b h z
    exact h (congrArg Prod.fst z)
  · simp only [diagT, List.mem_map, List.mem_range] at he
    obtain ⟨i, hi, rfl⟩ := he
    exact ⟨hi, hi⟩
theorem ropes_w {n : Nat} : ∀ {rs : List Rope} {T : Ents}, (∀ x ∈ rs, RopeOk n x) → Tw n T → Tw n (ropesT rs T)
  | [], T, _, w => w
  | x :: rs, T, h, w => ropes_w (rs := rs) (fun y hy => h y (List.mem_cons_of_mem _ hy)) (w.offer (p := (x.1, x.2.1)) (h x List.mem_cons_self).f (h x List.mem_cons_self).r)
theorem steps_w {n : Nat} : ∀ {ms : List Nat} {T : Ents}, Tw n T → Tw n (stepsT ms T)
  | [], _, w => w
  | m :: ms, T, w => steps_w (ms := ms) (w.extend m)
theorem chain_w {F : Fleet} (ok : F.Ok) : Tw F.n (chainT F) := steps_w (ropes_w ok.rp (diag_w F.n))
theorem nth_rng {lo : Int} {n i : Nat} {m : Mem} : (It.rng lo n).nth i m = some (((List.range n).map fun (j : Nat) => D.int (lo + j))[i]?) := by
  simp only [It.nth, List.getElem?_map]
  by_cases h : i < n
  · simp [h]
  · simp [h, List.getElem?_eq_none]
def fsF (F : Fleet) (kd : Nat) : List (Nat × D) := [(7, .int F.n), (6, .tup (F.rs.map ropeD)), (5, .ref kd)]
theorem tab_of {m : Mem} {F : Fleet} {T : Ents} {x : Mem} : TabAt (m ++ .ins 14 (fsF F (m.length + 1)) :: .dT false (kvsOf T) :: x) m.length (m.length + 1) F T false := ⟨get0, get1⟩
theorem two_big : (2 : Nat) ≤ big := by unfold big; omega
section
variable {G : Prog}
theorem init_w (P : Pk G) {n : Nat} {F : Fleet} {m : Mem} {Q : D → Mem → Prop} (ok : F.Ok)
    (h : ∀ x, Q .non (m ++ .ins 14 (fsF F (m.length + 1)) :: .dT false (kvsOf (chainT F)) :: x)) : (callN G (n + 3) 13 [.ref m.length, F.d] (m ++ [.ins 14 []])).wp Q := by
  refine wp_call P.p13 rfl ?_
  have h8 := ok.n8
  have hlim : lim62 (F.n : Int) = true := by simp [lim62]; omega
  simp only [fn13, w_consS, w_asg]
  have s1 : ∀ (fs fs' : List (Nat × D)) (t : Mem), (m ++ .ins 14 fs :: t).set m.length (.ins 14 fs') = m ++ .ins 14 fs' :: t := fun _ _ _ => set0
  have g1 : ∀ (fs : List (Nat × D)) (t : Mem), (m ++ .ins 14 fs :: t)[m.length]? = some (.ins 14 fs) := fun _ _ => get0
  simp [startS, Fleet.d, setFld, putA]
  refine w_dc ?_
  simp [fldV, List.lookup, mkIt, hlim]
  refine wp_dc (fun i m1 => m1 = m ++ [.ins 14 [(7, .int F.n), (6, .tup (F.rs.map ropeD))], .dT false (kvsOf (diagT i))]) ((List.range F.n).map fun (j : Nat) => D.int (0 + j)) (fun _ _ _ => nth_rng) ?_ (by simp [FU]; omega) ?_ ?_
  · simp [diagT, kvsOf]
  · rintro i m1 x hx rfl
    simp only [List.getElem?_map, Option.map_eq_some_iff] at hx
    obtain ⟨j, hj, rfl⟩ := hx
    have hi : i < F.n := by have := (List.getElem?_eq_some_iff.mp hj).1; simpa using this
    rw [List.getElem?_range hi] at hj
    cases hj
    refine w_turnD (by simp [wipeS]; rfl) ?_
    simp [condB, two_big]
    have e1 := get1 (m := m) (x := .ins 14 [(7, .int F.n), (6, .tup (F.rs.map ropeD))]) (y := .dT false (kvsOf (diagT i))) (t := [])
    have e2 := set1 (m := m) (x := .ins 14 [(7, .int F.n), (6, .tup (F.rs.map ropeD))]) (y := .dT false (kvsOf (diagT i))) (z := .dT false (kvsOf (diagT (i + 1)))) (t := [])
    have e3 : keysOf (.tup [.int i, .int i]) = some (k2 (i, i)) := keysOf_k2 (i, i)
    have hbig : big = 1000000 := rfl
    have e4 : (kvsOf (diagT i)).length < big := by simp only [kvsOf, diagT, List.length_map, List.length_range]; omega
    have e5 : putK (kvsOf (diagT i)) (k2 (i, i)) (.int 0) = kvsOf (diagT (i + 1)) := by
      rw [putK_of]
      refine congrArg kvsOf ?_
      unfold put
      rw [if_neg]
      · simp [diagT, List.range_succ]
      · intro z
        obtain ⟨e, he, h2⟩ := List.any_eq_true.mp z
        simp only [diagT, List.mem_map, List.mem_range] at he
        obtain ⟨k, hk, rfl⟩ := he
        have := of_decide_eq_true h2
        simp at this
        omega
    simp only [dcPut, e1, e3, Option.bind_some, e4, if_true, e5, e2]
  · rintro m1 rfl
    simp [endIt, List.length_map, List.length_range, fldV, List.lookup, setFld, putA]
    refine w_forS ?_
    simp [fldV, List.lookup, mkIt, srcOf, endIt]
    refine ws_for (fun i r m1 => m1 = m ++ [.ins 14 (fsF F (m.length + 1)), .dT false (kvsOf (ropesT (F.rs.take i) (diagT F.n)))] ∧ ∃ a2 a3 a4 a5 a6, r = [some (.ref m.length), some F.d, a2, a3, a4, a5, a6])
      (F.rs.map ropeD) (fun _ _ _ _ => by simp [It.nth, Src.all]) ⟨rfl, _, _, _, _, _, rfl⟩ (by have := ok.len; simp [FU]; omega) ?_ ?_
    · rintro i r m1 x hx ⟨rfl, a2, a3, a4, a5, a6, rfl⟩
      simp only [List.getElem?_map, Option.map_eq_some_iff] at hx
      obtain ⟨q, hq, rfl⟩ := hx
      have okq := ok.rp q (List.mem_of_getElem? hq)
      refine ⟨_, by simp [ropeD]; rfl, ?_⟩
      have ti := tab_of (m := m) (F := F) (T := ropesT (F.rs.take i) (diagT F.n)) (x := [])
      have wi : Tw F.n (ropesT (F.rs.take i) (diagT F.n)) := ropes_w (fun x hx => ok.rp x (List.mem_of_mem_take hx)) (diag_w F.n)
      simp only [w_consS, w_ex]
      refine w_meth ?_
      simp [clsOf, ti.ob, P.m1, two_big]
      refine offer_w P ti (Nat.lt_of_le_of_lt (wi.small h8) (by decide)) ?_
      have : ropesT (F.rs.take (i + 1)) (diagT F.n) = offerT (ropesT (F.rs.take i) (diagT F.n)) (q.1, q.2.1) q.2.2 := by
        rw [take_snoc hq]; simp [ropesT]
      rw [this, set1]
    · rintro r m1 ⟨rfl, a2, a3, a4, a5, a6, rfl⟩
      simp only [thenNx, w_consS]
      refine w_forS ?_
      have g2 := get0 (m := m) (x := .ins 14 (fsF F (m.length + 1))) (t := [.dT false (kvsOf (ropesT (F.rs.take (F.rs.map ropeD).length) (diagT F.n)))])
      simp [fldV, List.lookup, mkIt, hlim, endIt, fsF]
      refine ws_for (fun i r m1 => (∃ x, m1 = m ++ .ins 14 (fsF F (m.length + 1)) :: .dT false (kvsOf (stepsT ((List.range F.n).take i) (ropesT F.rs (diagT F.n)))) :: x) ∧ ∃ a2 a3 a4 a5 a6, r = [some (.ref m.length), some F.d, a2, a3, a4, a5, a6])
        ((List.range F.n).map fun (j : Nat) => D.int (0 + j)) (fun _ _ _ _ => nth_rng) ⟨⟨[], by simp [stepsT, fsF]⟩, _, _, _, _, _, rfl⟩ (by simp [FU]; omega) ?_ ?_
      · rintro i r m1 x hx ⟨⟨j, rfl⟩, a2, a3, a4, a5, a6, rfl⟩
        simp only [List.getElem?_map, Option.map_eq_some_iff] at hx
        obtain ⟨q, hq, rfl⟩ := hx
        refine ⟨_, by simp; rfl, ?_⟩
        have wr : Tw F.n (ropesT F.rs (diagT F.n)) := ropes_w ok.rp (diag_w F.n)
        have wi : Tw F.n (stepsT ((List.range F.n).take i) (ropesT F.rs (diagT F.n))) := steps_w wr
        have ti := tab_of (m := m) (F := F) (T := stepsT ((List.range F.n).take i) (ropesT F.rs (diagT F.n))) (x := j)
        simp only [w_consS, w_ex]
        refine w_meth ?_
        simp [clsOf, ti.ob, P.m2, -List.take_range]
        refine extend_w P wi h8 ti ?_
        have : stepsT ((List.range F.n).take (i + 1)) (ropesT F.rs (diagT F.n)) = extendT (stepsT ((List.range F.n).take i) (ropesT F.rs (diagT F.n))) q := by
          rw [take_snoc hq]; simp [stepsT]
        rw [this, set1]
        simp
      · rintro r m1 ⟨⟨x, rfl⟩, _⟩
        have : (List.range F.n).take ((List.range F.n).map fun (j : Nat) => D.int (0 + j)).length = List.range F.n := by simp
        rw [this]
        simp only [thenNx, w_nilS, endNx]
        exact h x
end
end HR

set_option linter.all false
set_option maxRecDepth 100000
set_option maxHeartbeats 1000000
/-! HR, mirror 7: the table read; positions checked. -/
namespace HR
open PySem
def optD (o : Option Int) : D := (o.map .int).getD .non
/-- no barge is ahead of itself -/
def DiagOk (F : Fleet) : Prop := ∀ i < F.n, ∃ l, look (chainT F) (i, i) = some l ∧ 0 ≤ l
section
variable {G : Prog}
theorem len_w (P : Pk G) {n o kd i j : Nat} {F : Fleet} {T : Ents} {m : Mem} {Q : D → Mem → Prop} (t : TabAt m o kd F T false) (h : Q (optD (look T (i, j))) m) : (callN G (n + 1) 16 [.ref o, .int i, .int j] m).wp Q := by
  refine wp_call P.p16 rfl ?_
  have g0 : keysOf (.tup [.int i, .int j]) = some (k2 (i, j)) := keysOf_k2 (i, j)
  have g1 : dictAt m kd (.tup [.int i, .int j]) = some ((look T (i, j)).map .int) := by simp [dictAt, t.dt, g0, getK_of]
  simp [fn16, startS, fldV, t.ob, List.lookup, rcv, isDict, t.dt, two_big, bmV, g1]
  exact h
theorem eqNil {m : Mem} {a b : Nat} (h : m[a]? = some (.lst [])) (h2 : m[b]? = some (.lst [])) : eqD m (.ref a) (.ref b) = some true := by
  have e : ∀ c, m[c]? = some (.lst []) → pyOk m (.ref c) = some (.list []) := fun c hc => by
    simp [pyOk, toPy, listAt, hc, SeqAt.shaped, PyData.canLay0, PyData.canLayAll0, PyData.depth, PyData.depthAll]
  exact eqSame (e a h) (e b h2)
theorem contra_w (P : Pk G) {n o kd : Nat} {F : Fleet} {T : Ents} {m : Mem} {Q : D → Mem → Prop} (h8 : F.n ≤ 8) (t : TabAt m o kd F T false) (hd : ∀ i < F.n, ∃ l, look T (i, i) = some l ∧ 0 ≤ l)
    (h : Q (.bl false) (m ++ [.lst [], .lst []])) : (callN G (n + 1) 17 [.ref o] m).wp Q := by
  refine wp_call P.p17 rfl ?_
  have hlim : lim62 (F.n : Int) = true := by simp [lim62]; omega
  simp only [fn17, w_consS, w_ret, w_cmp]
  refine w_lc ?_
  simp [startS, fldV, t.ob, List.lookup, mkIt, hlim]
  refine wp_lc (fun i acc m1 => acc = [] ∧ m1 = m ++ [.lst []]) ((List.range F.n).map fun (j : Nat) => D.int (0 + j)) (fun _ _ _ _ => nth_rng) ?_ ⟨rfl, rfl⟩ (by simp [FU]; omega) ?_ ?_
  · rintro i acc m1 ⟨rfl, rfl⟩
    exact get0
  · rintro i acc m1 x hx ⟨rfl, rfl⟩
    simp only [List.getElem?_map, Option.map_eq_some_iff] at hx
    obtain ⟨j, hj, rfl⟩ := hx
    have hi : i < F.n := by have := (List.getElem?_eq_some_iff.mp hj).1; simpa using this
    rw [List.getElem?_range hi] at hj
    cases hj
    obtain ⟨l, hl, h0⟩ := hd i hi
    have t1 := t.app [.lst []]
    have g0 : keysOf (.tup [.int i, .int i]) = some (k2 (i, i)) := keysOf_k2 (i, i)
    have g1 : dictAt (m ++ [.lst []]) kd (.tup [.int i, .int i]) = some (some (.int l)) := by simp [dictAt, t1.dt, g0, getK_of, hl]
    have g2 : listAt (m ++ [.lst []]) kd = none := by simp [listAt, t1.dt]
    refine w_turnL (by simp [wipeS]; rfl) ?_
    have hn : ¬ l < 0 := by omega
    simp [fldV, t1.ob, List.lookup, two_big, idxV, g1, g2, cmpV, hn, condB]
  · rintro acc m1 ⟨rfl, rfl⟩
    have e1 := get0 (m := m) (x := .lst []) (t := [.lst []])
    have e2 := get1 (m := m) (x := .lst []) (y := .lst []) (t := [])
    have := eqNil e1 e2
    simp [endIt, cmpV]
    refine osat_of (congrArg (Option.map fun x => !x) (by simpa using this)) ?_
    exact h
theorem cons_w (P : Pk G) {n : Nat} {F : Fleet} {m : Mem} {Q : D → Mem → Prop} (ok : F.Ok) (hd : DiagOk F) (h : ∀ x, Q (.ref m.length) (m ++ .ins 14 (fsF F (m.length + 1)) :: .dT false (kvsOf (chainT F)) :: x)) :
    (callN G (n + 4) 18 [F.d] m).wp Q := by
  refine wp_call P.p18 rfl ?_
  simp only [fn18, w_consS, w_asg]
  refine w_make (f := 13) P.i ?_
  simp [startS]
  refine init_w P ok fun x => ⟨rfl, ?_⟩
  have t1 := tab_of (m := m) (F := F) (T := chainT F) (x := x)
  refine w_meth ?_
  simp [clsOf, t1.ob, P.m4]
  refine contra_w P ok.n8 t1 hd ?_
  simp [boolOf]
  exact h _
end
end HR

set_option linter.all false
set_option maxRecDepth 100000
set_option maxHeartbeats 1000000
/-! HR, mirror 8: the mathematics of chains. -/
namespace HR
open PySem
theorem find_map {T : Ents} {p q : Nat × Nat} {l : Int} : look (T.map fun e => if e.1 = p then (e.1, l) else e) q = if q = p then (look T p).map fun _ => l else look T q := by
  induction T with
  | nil => simp [look]
  | cons e T ih =>
    unfold look at *
    rw [List.map_cons, List.find?_cons]
    by_cases hep : e.1 = p
    · simp only [hep, if_true]
      by_cases hq : q = p
      · subst hq
        simp [hep]
      · have h1 : ¬ p = q := fun z => hq z.symm
        have h2 : ¬ e.1 = q := by rw [hep]; exact h1
        simp only [h1, decide_false, List.find?_cons, h2]
        simpa [hq] using ih
    · simp only [hep, if_false]
      by_cases heq : e.1 = q
      · have hq : ¬ q = p := fun z => hep (heq.trans z)
        simp [heq, hq]
      · simp only [heq, decide_false]
        by_cases hq : q = p
        · subst hq
          simpa [List.find?_cons, heq] using ih
        · simpa [List.find?_cons, heq, hq] using ih
theorem look_any {T : Ents} {p : Nat × Nat} : (T.any fun e => decide (e.1 = p)) = (look T p).isSome := by
  induction T with
  | nil => rfl
  | cons e T ih =>
    unfold look at *
    rw [List.any_cons, List.find?_cons]
    by_cases h : e.1 = p
    · simp [h]
    · simpa [h] using ih
theorem look_app {T : Ents} {p q : Nat × Nat} {l : Int} : look (T ++ [(p, l)]) q = (look T q).or (if p = q then some l else none) := by
  unfold look
  rw [List.find?_append]
  cases T.find? fun e => decide (e.1 = q) with
  | some e => simp
  | none =>
    by_cases h : p = q <;> simp [h]
theorem look_put {T : Ents} {p q : Nat × Nat} {l : Int} : look (put T p l) q = if q = p then some l else look T q := by
  unfold put
  rw [look_any]
  cases h : look T p with
  | some o =>
    simp only [Option.isSome_some, if_true]
    rw [find_map, h]
    rfl
  | none =>
    simp only [Option.isSome_none, Bool.false_eq_true, if_false]
    rw [look_app]
    by_cases hq : q = p
    · subst hq; simp [h]
    · have : ¬ p = q := fun z => hq z.symm
      simp [hq, this]
theorem look_offer {T : Ents} {p q : Nat × Nat} {l : Int} : look (offerT T p l) q = if q = p then some (match look T p with | none => l | some o => if l < o then l else o) else look T q := by
  unfold offerT
  cases h : look T p with
  | none => simp only; exact look_put
  | some o =>
    simp only
    by_cases hl : l < o
    · simp only [hl, if_true]; exact look_put
    · simp only [hl, if_false]
      by_cases hq : q = p
      · subst hq; simp [h]
      · simp [hq]
theorem look_mem {T : Ents} (nd : (T.map (·.1)).Nodup) {p : Nat × Nat} {l : Int} : look T p = some l ↔ (p, l) ∈ T := by
  induction T with
  | nil => simp [look]
  | cons e T ih =>
    have nd2 := List.nodup_cons.mp (by simpa using nd : ((e.1) :: T.map (·.1)).Nodup)
    unfold look at *
    rw [List.find?_cons]
    by_cases h : e.1 = p
    · simp only [h, decide_true, Option.map_some, Option.some.injEq, List.mem_cons]
      constructor
      · rintro rfl; exact .inl (by rw [← h])
      · rintro (z | z)
        · rw [← z]
        · exact absurd (List.mem_map.mpr ⟨(p, l), z, h.symm⟩) nd2.1
    · simp only [h, decide_false, List.mem_cons]
      rw [ih nd2.2]
      constructor
      · exact fun z => .inr z
      · rintro (z | z)
        · exact absurd (by rw [← z]) h
        · exact z
/-- many offers -/
def offersT (os : Ents) (T : Ents) : Ents := os.foldl (fun T o => offerT T o.1 o.2) T
def Le (T T' : Ents) : Prop := ∀ q l, look T q = some l → ∃ l', look T' q = some l' ∧ l' ≤ l
theorem Le.refl (T : Ents) : Le T T := fun q l h => ⟨l, h, Int.le_refl _⟩
theorem Le.trans {T T' T2 : Ents} (a : Le T T') (b : Le T' T2) : Le T T2 := fun q l h => by
  obtain ⟨l1, h1, h2⟩ := a q l h
  obtain ⟨l2, h3, h4⟩ := b q l1 h1
  exact ⟨l2, h3, Int.le_trans h4 h2⟩
theorem offer_le (T : Ents) (p : Nat × Nat) (l : Int) : Le T (offerT T p l) := fun q o h => by
  rw [look_offer]
  by_cases hq : q = p
  · subst hq
    rw [h]
    simp only [if_true]
    refine ⟨_, rfl, ?_⟩
    split <;> omega
  · simp only [hq, if_false]
    exact ⟨o, h, Int.le_refl _⟩
theorem offers_le : ∀ (os T : Ents), Le T (offersT os T)
  | [], T => Le.refl T
  | o :: os, T => (offer_le T o.1 o.2).trans (offers_le os _)
theorem offers_in : ∀ {os T : Ents} {o : (Nat × Nat) × Int}, o ∈ os → ∃ l, look (offersT os T) o.1 = some l ∧ l ≤ o.2
  | o' :: os, T, o, h => by
    rcases List.mem_cons.mp h with z | z
    · subst z
      have h1 : ∃ l, look (offerT T o.1 o.2) o.1 = some l ∧ l ≤ o.2 := by
        rw [look_offer]
        simp only [if_true]
        refine ⟨_, rfl, ?_⟩
        split
        · exact Int.le_refl _
        · split <;> omega
      obtain ⟨l, h2, h3⟩ := h1
      obtain ⟨l2, h4, h5⟩ := offers_le os (offerT T o.1 o.2) _ _ h2
      exact ⟨l2, h4, Int.le_trans h5 h3⟩
    · exact offers_in (os := os) (T := offerT T o'.1 o'.2) z
theorem offers_from : ∀ {os T : Ents} {q : Nat × Nat} {l : Int}, look (offersT os T) q = some l → look T q = some l ∨ (q, l) ∈ os
  | [], T, q, l, h => .inl h
  | o :: os, T, q, l, h => by
    rcases offers_from (os := os) (T := offerT T o.1 o.2) h with z | z
    · rw [look_offer] at z
      by_cases hq : q = o.1
      · subst hq
        simp only [if_true, Option.some.injEq] at z
        cases e : look T o.1 with
        | none =>
          rw [e] at z
          subst z; exact .inr List.mem_cons_self
        | some v =>
          rw [e] at z
          simp only at z
          split at z
          · subst z; exact .inr List.mem_cons_self
          · subst z; exact .inl rfl
      · simp only [hq, if_false] at z
        exact .inl z
    · exact .inr (List.mem_cons_of_mem _ z)
theorem inner_offers (f : Nat × Int) (B : List (Nat × Int)) (T : Ents) : innerT f B T = offersT (B.map fun r => ((f.1, r.1), f.2 + r.2)) T := by
  unfold innerT offersT
  rw [List.foldl_map]
theorem outer_offers (B : List (Nat × Int)) : ∀ (A : List (Nat × Int)) (T : Ents), outerT A B T = offersT (A.flatMap fun f => B.map fun r => ((f.1, r.1), f.2 + r.2)) T
  | [], T => rfl
  | f :: A, T => by
    have ih := outer_offers B A (innerT f B T)
    unfold outerT offersT at *
    rw [List.foldl_cons, ih, List.flatMap_cons, List.foldl_append]
    congr 1
    exact inner_offers f B T
theorem ropes_offers (rs : List Rope) (T : Ents) : ropesT rs T = offersT (rs.map fun x => ((x.1, x.2.1), x.2.2)) T := by
  unfold ropesT offersT
  rw [List.foldl_map]
theorem mem_before {T : Ents} {m i : Nat} {a : Int} : (i, a) ∈ before T m ↔ ((i, m), a) ∈ T := by
  simp only [before, List.mem_filterMap]
  constructor
  · rintro ⟨e, he, h⟩
    split at h
    · rename_i z
      cases h
      rw [← z]; exact he
    · cases h
  · intro h
    exact ⟨_, h, by simp⟩
theorem mem_behind {T : Ents} {m j : Nat} {a : Int} : (j, a) ∈ behind T m ↔ ((m, j), a) ∈ T := by
  simp only [behind, List.mem_filterMap]
  constructor
  · rintro ⟨e, he, h⟩
    split at h
    · rename_i z
      cases h
      rw [← z]; exact he
    · cases h
  · intro h
    exact ⟨_, h, by simp⟩
section
variable {T : Ents} {m : Nat}
theorem ext_le : Le T (extendT T m) := by
  unfold extendT
  rw [outer_offers]
  exact offers_le _ _
theorem ext_in (nd : (T.map (·.1)).Nodup) {i j : Nat} {a b : Int} (h1 : look T (i, m) = some a) (h2 : look T (m, j) = some b) : ∃ l, look (extendT T m) (i, j) = some l ∧ l ≤ a + b := by
  unfold extendT
  rw [outer_offers]
  have : ((i, j), a + b) ∈ (before T m).flatMap fun f => (behind T m).map fun r => ((f.1, r.1), f.2 + r.2) := by
    rw [List.mem_flatMap]
    exact ⟨(i, a), mem_before.mpr ((look_mem nd).mp h1), List.mem_map.mpr ⟨(j, b), mem_behind.mpr ((look_mem nd).mp h2), rfl⟩⟩
  exact offers_in this
theorem ext_from (nd : (T.map (·.1)).Nodup) {i j : Nat} {l : Int} (h : look (extendT T m) (i, j) = some l) : look T (i, j) = some l ∨ ∃ a b, look T (i, m) = some a ∧ look T (m, j) = some b ∧ l = a + b := by
  unfold extendT at h
  rw [outer_offers] at h
  rcases offers_from h with z | z
  · exact .inl z
  · rw [List.mem_flatMap] at z
    obtain ⟨f, hf, z⟩ := z
    obtain ⟨r, hr, e⟩ := List.mem_map.mp z
    cases e
    exact .inr ⟨f.2, r.2, (look_mem nd).mpr (mem_before.mp hf), (look_mem nd).mpr (mem_behind.mp hr), rfl⟩
end
/-- positions that keep all that the table says -/
def Sound (p : Nat → Int) (T : Ents) : Prop := ∀ i j l, look T (i, j) = some l → p i - p j ≤ l
def Tri (ms : List Nat) (T : Ents) : Prop := ∀ m ∈ ms, ∀ i j a b, look T (i, m) = some a → look T (m, j) = some b → ∃ c, look T (i, j) = some c ∧ c ≤ a + b
theorem ext_sound {T : Ents} {m : Nat} {p : Nat → Int} (nd : (T.map (·.1)).Nodup) (s : Sound p T) : Sound p (extendT T m) := fun i j l h => by
  rcases ext_from nd h with z | ⟨a, b, h1, h2, rfl⟩
  · exact s i j l z
  · have := s _ _ _ h1
    have := s _ _ _ h2
    omega
theorem ext_tri {T : Ents} {k : Nat} {ms : List Nat} (nd : (T.map (·.1)).Nodup) (hk : ∀ l, look T (k, k) = some l → 0 ≤ l) (t : Tri ms T) : Tri (k :: ms) (extendT T k) := by
  intro m hm i j a b h1 h2
  have use : ∀ {x y : Int}, look T (i, k) = some x → look T (k, j) = some y → x + y ≤ a + b → ∃ c, look (extendT T k) (i, j) = some c ∧ c ≤ a + b := fun hx hy hle => by
    obtain ⟨c, h3, h4⟩ := ext_in nd hx hy
    exact ⟨c, h3, by omega⟩
  rcases List.mem_cons.mp hm with e | e
  · subst e
    have g1 : ∃ x, look T (i, m) = some x ∧ x ≤ a := by
      rcases ext_from nd h1 with z | ⟨x, y, hx, hy, rfl⟩
      · exact ⟨a, z, Int.le_refl _⟩
      · have := hk y hy
        exact ⟨x, hx, by omega⟩
    have g2 : ∃ y, look T (m, j) = some y ∧ y ≤ b := by
      rcases ext_from nd h2 with z | ⟨x, y, hx, hy, rfl⟩
      · exact ⟨b, z, Int.le_refl _⟩
      · have := hk x hx
        exact ⟨y, hy, by omega⟩
    obtain ⟨x, hx, hx2⟩ := g1
    obtain ⟨y, hy, hy2⟩ := g2
    exact use hx hy (by omega)
  · rcases ext_from nd h1 with z1 | ⟨a1, a2, z1, z2, rfl⟩
    · rcases ext_from nd h2 with z3 | ⟨b1, b2, z3, z4, rfl⟩
      · obtain ⟨c, h3, h4⟩ := t m e i j a b z1 z3
        obtain ⟨c2, h5, h6⟩ := ext_le _ _ h3
        exact ⟨c2, h5, by omega⟩
      · obtain ⟨c, h3, h4⟩ := t m e i k a b1 z1 z3
        exact use h3 z4 (by omega)
    · rcases ext_from nd h2 with z3 | ⟨b1, b2, z3, z4, rfl⟩
      · obtain ⟨c, h3, h4⟩ := t m e k j a2 b z2 z3
        exact use z1 h3 (by omega)
      · obtain ⟨c, h3, h4⟩ := t m e k k a2 b1 z2 z3
        have := hk c h3
        exact use z1 z4 (by omega)
theorem steps_le : ∀ (ms : List Nat) (T : Ents), Le T (stepsT ms T)
  | [], T => Le.refl T
  | m :: ms, T => ext_le.trans (steps_le ms _)
theorem steps_sound {n : Nat} {p : Nat → Int} : ∀ (ms : List Nat) {T : Ents}, Tw n T → Sound p T → Sound p (stepsT ms T)
  | [], T, _, s => s
  | m :: ms, T, w, s => steps_sound ms (w.extend m) (ext_sound w.nd s)
theorem steps_tri {n : Nat} {p : Nat → Int} : ∀ (ms ms0 : List Nat) {T : Ents}, Tw n T → Sound p T → Tri ms0 T → Tri (ms.reverse ++ ms0) (stepsT ms T)
  | [], ms0, T, _, _, t => t
  | m :: ms, ms0, T, w, s, t => by
    have := steps_tri ms (m :: ms0) (w.extend m) (ext_sound (m := m) w.nd s) (ext_tri w.nd (fun l h => by have := s m m l h; omega) t)
    rw [List.reverse_cons, List.append_assoc]
    exact this
/-- positions that keep all ropes -/
def Valid (F : Fleet) (p : Nat → Int) : Prop := ∀ x ∈ F.rs, p x.1 - p x.2.1 ≤ x.2.2
theorem diag_look {n : Nat} {q : Nat × Nat} {l : Int} : look (diagT n) q = some l ↔ q.1 < n ∧ q.1 = q.2 ∧ l = 0 := by
  obtain ⟨a, b⟩ := q
  rw [look_mem (diag_w n).nd]
  simp only [diagT, List.mem_map, List.mem_range, Prod.mk.injEq]
  constructor
  · rintro ⟨i, hi, ⟨rfl, rfl⟩, rfl⟩; exact ⟨hi, rfl, rfl⟩
  · rintro ⟨h, rfl, rfl⟩; exact ⟨a, h, ⟨rfl, rfl⟩, rfl⟩
section
variable {F : Fleet}
theorem ropes_sound {p : Nat → Int} (v : Valid F p) : Sound p (ropesT F.rs (diagT F.n)) := fun i j l h => by
  rw [ropes_offers] at h
  rcases offers_from h with z | z
  · obtain ⟨_, e, e2⟩ := diag_look.mp z
    have e : i = j := e
    subst e e2
    simp
  · obtain ⟨x, hx, e⟩ := List.mem_map.mp z
    cases e
    exact v x hx
theorem chain_sound (ok : F.Ok) {p : Nat → Int} (v : Valid F p) : Sound p (chainT F) := steps_sound _ (ropes_w ok.rp (diag_w F.n)) (ropes_sound v)
theorem chain_rope {x : Rope} (hx : x ∈ F.rs) : ∃ l, look (chainT F) (x.1, x.2.1) = some l ∧ l ≤ x.2.2 := by
  have : ((x.1, x.2.1), x.2.2) ∈ F.rs.map fun x => ((x.1, x.2.1), x.2.2) := List.mem_map.mpr ⟨x, hx, rfl⟩
  obtain ⟨l, h1, h2⟩ := offers_in (T := diagT F.n) this
  rw [← ropes_offers] at h1
  obtain ⟨l2, h3, h4⟩ := steps_le (List.range F.n) _ _ _ h1
  exact ⟨l2, h3, Int.le_trans h4 h2⟩
theorem chain_diag (ok : F.Ok) {p : Nat → Int} (v : Valid F p) {i : Nat} (hi : i < F.n) : look (chainT F) (i, i) = some 0 := by
  have h0 : look (diagT F.n) (i, i) = some 0 := diag_look.mpr ⟨hi, rfl, rfl⟩
  obtain ⟨l, h1, h2⟩ := ((ropes_offers F.rs (diagT F.n)) ▸ offers_le _ _ : Le (diagT F.n) (ropesT F.rs (diagT F.n))).trans (steps_le (List.range F.n) _) _ _ h0
  have h3 := chain_sound ok v i i l h1
  have : l = 0 := by omega
  subst this
  exact h1
theorem chain_tri (ok : F.Ok) {p : Nat → Int} (v : Valid F p) {i j k : Nat} {a b : Int} (h1 : look (chainT F) (i, j) = some a) (h2 : look (chainT F) (j, k) = some b) : ∃ c, look (chainT F) (i, k) = some c ∧ c ≤ a + b := by
  have t := steps_tri (List.range F.n) [] (ropes_w ok.rp (diag_w F.n)) (ropes_sound v) (fun _ h => by cases h)
  refine t j ?_ i k a b h1 h2
  have := (chain_w ok).rg _ ((look_mem (chain_w ok).nd).mp h1)
  simp
  exact this.2
theorem chain_ok (ok : F.Ok) {p : Nat → Int} (v : Valid F p) : DiagOk F := fun i hi => ⟨0, chain_diag ok v hi, Int.le_refl _⟩
end
end HR

set_option linter.all false
set_option maxRecDepth 100000
set_option maxHeartbeats 1000000
/-! HR, mirror 9: positions checked, the start of a haul. -/
namespace HR
open PySem
def posD (p : List Int) : D := .tup (p.map .int)
def atP (p : List Int) : Nat → Int := fun i => p.getD i 0
structure PosOk (F : Fleet) (p : List Int) : Prop where
  len : p.length = F.n
  lo : ∀ x ∈ p, -9999 ≤ x
  hi : ∀ x ∈ p, x ≤ 9999
  val : Valid F (atP p)
theorem atI_nat {α : Type} {xs : List α} {i : Nat} (h : i < xs.length) : L2.atI xs (i : Int) = xs[i]? := by
  unfold L2.atI L2.ixN
  have : (0 : Int) ≤ (i : Int) := by omega
  have h2 : (i : Int) < (xs.length : Int) := by omega
  simp [this, h2]
theorem atI_pos {p : List Int} {i : Nat} (h : i < p.length) : L2.atI (p.map D.int) (i : Int) = some (.int (atP p i)) := by
  rw [atI_nat (by simpa using h)]
  simp [List.getElem?_map, atP, List.getElem?_eq_getElem h, List.getD]
theorem atP_get {p : List Int} {i : Nat} {x : Int} (h : p[i]? = some x) : atP p i = x := by simp [atP, List.getD, h]
/-- the store has grown -/
def Pf (m m' : Mem) : Prop := ∃ x, m' = m ++ x
theorem Pf.refl (m : Mem) : Pf m m := ⟨[], by simp⟩
theorem Pf.trans {a b c : Mem} (h : Pf a b) (g : Pf b c) : Pf a c := by
  obtain ⟨x, rfl⟩ := h
  obtain ⟨y, rfl⟩ := g
  exact ⟨x ++ y, by simp⟩
theorem Pf.app (m x : Mem) : Pf m (m ++ x) := ⟨x, rfl⟩
theorem Pf.get {m m' : Mem} (h : Pf m m') {k : Nat} {o : O} (e : m[k]? = some o) : m'[k]? = some o := by
  obtain ⟨x, rfl⟩ := h
  rw [getLt (List.getElem?_eq_some_iff.mp e).1]; exact e
theorem Pf.len {m m' : Mem} (h : Pf m m') : m.length ≤ m'.length := by
  obtain ⟨x, rfl⟩ := h
  simp
theorem TabAt.pf {m m' : Mem} {o kd : Nat} {F : Fleet} {T : Ents} {lk : Bool} (t : TabAt m o kd F T lk) (h : Pf m m') : TabAt m' o kd F T lk := ⟨h.get t.ob, h.get t.dt⟩
theorem nth_enL {m : Mem} {k i : Nat} {xs : List D} (h : m[k]? = some (.lst xs)) : (It.en (.lst k)).nth i m = some ((xs.zipIdx.map fun p => D.tup [.int p.2, p.1])[i]?) := by
  simp [It.nth, Src.all, listAt, h, List.getElem?_map]
  cases h : xs[i]? <;> simp [h, List.getElem?_zipIdx]
theorem nth_lst {m : Mem} {k i : Nat} {xs : List D} (h : m[k]? = some (.lst xs)) : (It.src (.lst k)).nth i m = some (xs[i]?) := by
  simp [It.nth, Src.all, listAt, h]
theorem en_get {xs : List D} {i : Nat} {x : D} (h : (xs.zipIdx.map fun p => D.tup [.int p.2, p.1])[i]? = some x) : ∃ y, xs[i]? = some y ∧ x = .tup [.int i, y] := by
  simp only [List.getElem?_map, List.getElem?_zipIdx, Option.map_eq_some_iff] at h
  obtain ⟨z, ⟨y, hy, rfl⟩, rfl⟩ := h
  exact ⟨y, hy, by simp⟩
theorem fu_of {n : Nat} (h : n ≤ 1000000) : n < FU := by simp [FU]; omega
section
variable {G : Prog}
theorem pos_w (P : PkH G) {n : Nat} {F : Fleet} {p : List Int} {m : Mem} {Q : D → Mem → Prop} (ok : F.Ok) (hp : PosOk F p) (h : Q .non m) : (callN G (n + 2) 23 [F.d, posD p] m).wp Q := by
  refine wp_call P.p23 rfl ?_
  have hl := hp.len
  have h8 := ok.n8
  simp [fn23, startS, isiV, boolOf, posD]
  refine w_forS ?_
  simp [mkIt, srcOf, endIt]
  refine ws_for (fun _ r m1 => m1 = m ∧ ∃ a b, r = [some F.d, some (posD p), a, b]) ((p.map D.int).zipIdx.map fun p => D.tup [.int p.2, p.1]) (fun _ _ _ _ => nth_en) ⟨rfl, none, none, rfl⟩ (fu_of (by simp; omega)) ?_ ?_
  · rintro i r m1 x hx ⟨rfl, a, b, rfl⟩
    obtain ⟨y, hy, rfl⟩ := en_get hx
    simp only [List.getElem?_map, Option.map_eq_some_iff] at hy
    obtain ⟨v, hv, rfl⟩ := hy
    have hi := (List.getElem?_eq_some_iff.mp hv).1
    have hm := List.mem_of_getElem? hv
    have g1 := hp.lo v hm
    have g2 := hp.hi v hm
    have g3 : ¬ (i : Int) = (F.n : Int) := by omega
    refine ⟨_, by simp; rfl, ?_⟩
    have e0 : L2.atI [D.int (F.n : Int), .tup (F.rs.map ropeD)] 0 = some (.int F.n) := rfl
    simp [cmpV, boolOf, Fleet.d, idxV, e0, g3, is_int P.toPk, g1, g2, intOf]
  · rintro r m1 ⟨rfl, a, b, rfl⟩
    have e0 : L2.atI [D.int (F.n : Int), .tup (F.rs.map ropeD)] 0 = some (.int F.n) := rfl
    simp [bltV, posD, Fleet.d, idxV, e0, cmpV, boolOf, hl]
    exact h
def slackOf (F : Fleet) (p : List Int) : List Int := F.rs.map fun x => x.2.2 - atP p x.1 + atP p x.2.1
theorem slack_w (P : PkH G) {n : Nat} {F : Fleet} {p : List Int} {m : Mem} {Q : D → Mem → Prop} (ok : F.Ok) (hp : p.length = F.n) (h : Q (.ref m.length) (m ++ [.lst ((slackOf F p).map .int)])) : (callN G (n + 1) 24 [F.d, posD p] m).wp Q := by
  refine wp_call P.p24 rfl ?_
  simp only [fn24, w_consS, w_ret]
  refine w_lc ?_
  have e1 : L2.atI [D.int (F.n : Int), .tup (F.rs.map ropeD)] 1 = some (.tup (F.rs.map ropeD)) := rfl
  simp [startS, Fleet.d, idxV, e1, mkIt, srcOf]
  refine wp_lc (fun i acc m1 => i ≤ F.rs.length ∧ acc = ((slackOf F p).take i).map D.int ∧ m1 = m ++ [.lst acc]) (F.rs.map ropeD) (fun _ _ _ _ => by simp [It.nth, Src.all]) ?_ ⟨Nat.zero_le _, by simp, rfl⟩ (by have := ok.len; simp [FU]; omega) ?_ ?_
  · rintro i acc m1 ⟨_, rfl, rfl⟩
    exact get0
  · rintro i acc m1 x hx ⟨hi, rfl, rfl⟩
    simp only [List.getElem?_map, Option.map_eq_some_iff] at hx
    obtain ⟨q, hq, rfl⟩ := hx
    have okq := ok.rp q (List.mem_of_getElem? hq)
    have g1 := atI_pos (p := p) (i := q.1) (by rw [hp]; exact okq.f)
    have g2 := atI_pos (p := p) (i := q.2.1) (by rw [hp]; exact okq.r)
    have hlt := (List.getElem?_eq_some_iff.mp hq).1
    refine w_turnL (by simp [wipeS, ropeD]; rfl) ?_
    have hl := ok.len
    have e2 : (slackOf F p)[i]? = some (q.2.2 - atP p q.1 + atP p q.2.1) := by simp [slackOf, List.getElem?_map, hq]
    have hb : (((slackOf F p).take i).map D.int).length < big := by
      have hbig : big = 1000000 := rfl
      simp [slackOf]; omega
    have e3 : ((slackOf F p).take (i + 1)).map D.int = ((slackOf F p).take i).map D.int ++ [.int (q.2.2 - atP p q.1 + atP p q.2.1)] := by
      rw [take_snoc e2]; simp
    simp only [w_nil, condB, osat_some, if_true]
    simp [posD, idxV, g1, g2, binV]
    refine ⟨by simpa using hb, by omega, ?_⟩
    simpa using e3.symm
  · rintro acc m1 ⟨_, rfl, rfl⟩
    have : (F.rs.map ropeD).length = (slackOf F p).length := by simp [slackOf]
    simp only [this, List.take_length, endIt]
    simpa using h
end
end HR

set_option linter.all false
set_option maxRecDepth 100000
set_option maxHeartbeats 1000000
/-! HR, mirror 10: the start of a haul, chains, drags. -/
namespace HR
open PySem
/-- a table of all chains stands in the store -/
def TabP (F : Fleet) (Q : D → Mem → Prop) (m : Mem) : Prop := ∀ m' o kd, Pf m m' → TabAt m' o kd F (chainT F) false → Q (.ref o) m'
section
variable {G : Prog}
theorem valid_w (P : PkH G) {n : Nat} {F : Fleet} {p : List Int} {m : Mem} {Q : D → Mem → Prop} (ok : F.Ok) (hp : PosOk F p) (h : Q .non (m ++ [.lst ((slackOf F p).map .int)])) : (callN G (n + 3) 25 [F.d, posD p] m).wp Q := by
  refine wp_call P.p25 rfl ?_
  simp [fn25, startS]
  refine pos_w P ok hp ?_
  refine w_forS ?_
  simp
  refine slack_w P ok hp.len ?_
  have e0 : (m ++ [O.lst ((slackOf F p).map .int)])[m.length]? = some (.lst ((slackOf F p).map .int)) := get0
  simp [mkIt, srcOf, listAt, e0, endIt]
  refine ws_for (fun _ r m1 => m1 = m ++ [.lst ((slackOf F p).map .int)] ∧ ∃ a b, r = [some F.d, some (posD p), a, b]) (((slackOf F p).map D.int).zipIdx.map fun p => D.tup [.int p.2, p.1]) ?_ ⟨rfl, none, none, rfl⟩
    (fu_of (by have := ok.len; simp [slackOf]; omega)) ?_ ?_
  · rintro i r m1 ⟨rfl, _⟩
    exact nth_enL e0
  · rintro i r m1 x hx ⟨rfl, a, b, rfl⟩
    obtain ⟨y, hy, rfl⟩ := en_get hx
    simp only [List.getElem?_map, Option.map_eq_some_iff] at hy
    obtain ⟨v, hv, rfl⟩ := hy
    have hm := List.mem_of_getElem? hv
    simp only [slackOf, List.mem_map] at hm
    obtain ⟨q, hq, rfl⟩ := hm
    have hv2 := hp.val q hq
    have g3 : ¬ (q.2.2 - atP p q.1 + atP p q.2.1 < 0) := by omega
    refine ⟨_, by simp; rfl, ?_⟩
    simp [cmpV, boolOf, g3]
  · rintro r m1 ⟨rfl, a, b, rfl⟩
    simpa using h
theorem start_w (P : PkH G) {n : Nat} {F : Fleet} {p : List Int} {m : Mem} {Q : D → Mem → Prop} (ok : F.Ok) (hp : PosOk F p) (h : TabP F Q m) : (callN G (n + 5) 30 [F.d, posD p] m).wp Q := by
  refine wp_call P.p30 rfl ?_
  simp [fn30, startS]
  refine chk_fleet P ok ?_
  refine valid_w P ok hp ?_
  refine cons_w P ok (chain_ok ok hp.val) fun x => ?_
  refine h _ _ _ ?_ (tab_of (x := x))
  exact (Pf.app m _).trans (Pf.app _ _)
theorem cons_tab (P : Pk G) {n : Nat} {F : Fleet} {m : Mem} {Q : D → Mem → Prop} (ok : F.Ok) (hd : DiagOk F) (h : TabP F Q m) : (callN G (n + 4) 18 [F.d] m).wp Q :=
  cons_w P ok hd fun x => h _ _ _ (Pf.app m _) (tab_of (x := x))
theorem chainlen_w (P : Pk G) (h19 : G.fns 19 = some fn19) {n : Nat} {F : Fleet} {i j : Nat} {m : Mem} {Q : D → Mem → Prop} (ok : F.Ok) (hd : DiagOk F) (hi : i < F.n) (hj : j < F.n) (h : ∀ m', Pf m m' → Q (optD (look (chainT F) (i, j))) m') :
    (callN G (n + 5) 19 [F.d, .int i, .int j] m).wp Q := by
  refine wp_call h19 rfl ?_
  simp [fn19, startS]
  refine chk_fleet P ok ?_
  refine w_forS ?_
  simp [two_big, mkIt, srcOf, endIt]
  refine ws_for (fun _ r m1 => m1 = m ∧ ∃ a, r = [some F.d, some (.int i), some (.int j), a]) [.int i, .int j] (fun _ _ _ _ => by simp [It.nth, Src.all]) ⟨rfl, none, rfl⟩ (fu_of (by simp)) ?_ ?_
  · rintro k r m1 x hx ⟨rfl, a, rfl⟩
    have e0 : L2.atI [D.int (F.n : Int), .tup (F.rs.map ropeD)] 0 = some (.int F.n) := rfl
    have hx2 : ∃ v : Nat, x = .int v ∧ v < F.n := by
      have := List.mem_of_getElem? hx
      simp at this
      rcases this with rfl | rfl
      · exact ⟨i, rfl, hi⟩
      · exact ⟨j, rfl, hj⟩
    obtain ⟨v, rfl, hv⟩ := hx2
    have g1 : (v : Int) ≤ (F.n : Int) - 1 := by omega
    refine ⟨_, by simp; rfl, ?_⟩
    simp [Fleet.d, idxV, e0, binV, is_int P, boolOf, g1]
  · rintro r m1 ⟨rfl, a, rfl⟩
    simp
    refine w_meth ?_
    simp
    refine cons_tab P ok hd fun m' o kd hpf t => ?_
    simp [clsOf, t.ob, P.m3]
    exact len_w P t (h m' hpf)
/-- positions behind a drag -/
def dragP (T : Ents) (p : List Int) (b : Nat) (v : Int) : List Int := (List.range p.length).map fun i => match look T (b, i) with
  | none => atP p i
  | some l => if v - l > atP p i then v - l else atP p i
theorem dragP_len (T : Ents) (p : List Int) (b : Nat) (v : Int) : (dragP T p b v).length = p.length := by simp [dragP]
theorem dragP_at (T : Ents) {p : List Int} (b : Nat) (v : Int) {i : Nat} (h : i < p.length) : atP (dragP T p b v) i = match look T (b, i) with
  | none => atP p i
  | some l => if v - l > atP p i then v - l else atP p i := by
  simp [atP, dragP, List.getD, List.getElem?_range h]
theorem drag_w (P : PkH G) {n o kd b : Nat} {F : Fleet} {T : Ents} {p : List Int} {v : Int} {m : Mem} {Q : D → Mem → Prop} (t : TabAt m o kd F T false) (hp : p.length ≤ 1000) (h : ∀ m', Pf m m' → Q (posD (dragP T p b v)) m') :
    (callN G (n + 2) 28 [.ref o, posD p, .int b, .int v] m).wp Q := by
  refine wp_call P.p28 rfl ?_
  simp [fn28, startS]
  refine w_forS ?_
  simp [posD, mkIt, srcOf, endIt]
  refine ws_for (fun i r m1 => i ≤ p.length ∧ m1 = m ++ [.lst (((dragP T p b v).take i).map .int)] ∧ ∃ a5 a6 a7, r = [some (.ref o), some (posD p), some (.int b), some (.int v), some (.ref m.length), a5, a6, a7]) ((p.map D.int).zipIdx.map fun p => D.tup [.int p.2, p.1]) (fun _ _ _ _ => nth_en)
    ⟨Nat.zero_le _, by simp, none, none, none, rfl⟩ (fu_of (by simp; omega)) ?_ ?_
  · rintro i r m1 x hx ⟨hi, rfl, a5, a6, a7, rfl⟩
    obtain ⟨y, hy, rfl⟩ := en_get hx
    simp only [List.getElem?_map, Option.map_eq_some_iff] at hy
    obtain ⟨u, hu, rfl⟩ := hy
    have hlt := (List.getElem?_eq_some_iff.mp hu).1
    have hat := atP_get hu
    refine ⟨_, by simp; rfl, ?_⟩
    have t1 := t.app [.lst (((dragP T p b v).take i).map .int)]
    have e0 : (m ++ [O.lst (((dragP T p b v).take i).map .int)])[m.length]? = some (.lst (((dragP T p b v).take i).map .int)) := get0
    have hb : (((dragP T p b v).take i).map D.int).length < big := by
      have hbig : big = 1000000 := rfl
      have := dragP_len T p b v
      simp; omega
    have e2 : (dragP T p b v)[i]? = some (atP (dragP T p b v) i) := by
      have : i < (dragP T p b v).length := by rw [dragP_len]; exact hlt
      simp [atP, List.getD, List.getElem?_eq_getElem this]
    have e3 : (m ++ [O.lst (((dragP T p b v).take i).map .int)]).set m.length (.lst (((dragP T p b v).take i).map .int ++ [.int (atP (dragP T p b v) i)])) = m ++ [.lst (((dragP T p b v).take (i + 1)).map .int)] := by
      rw [take_snoc e2]
      simp
    generalize hacc : ((dragP T p b v).take i).map D.int = acc at *
    simp only [w_consS, w_asg]
    refine w_meth ?_
    simp [clsOf, t1.ob, P.m3]
    refine len_w P t1 ?_
    rw [dragP_at T b v hlt, hat] at e2 e3
    cases hl : look T (b, i) with
    | none =>
      rw [hl] at e3
      simp only at e3
      simp [optD, isNon, cmpV, boolOf, rcv, listAt, e0]
      simp only [bmV, e0, hb, if_true, wpOk]
      refine ⟨by omega, ?_⟩
      rw [← List.map_take]
      exact e3
    | some l =>
      rw [hl] at e3
      simp only at e3
      simp [optD, isNon, cmpV, boolOf, rcv, listAt, e0, bltV, binV]
      simp only [bmV, e0, hb, if_true, wpOk]
      refine ⟨by omega, ?_⟩
      rw [← List.map_take]
      exact e3
  · rintro r m1 ⟨_, rfl, a5, a6, a7, rfl⟩
    have e0 : (m ++ [O.lst (((dragP T p b v).take ((p.map D.int).zipIdx.map fun p => D.tup [.int p.2, p.1]).length).map .int)])[m.length]? = some (.lst (((dragP T p b v).take ((p.map D.int).zipIdx.map fun p => D.tup [.int p.2, p.1]).length).map .int)) := get0
    have hlen : ((p.map D.int).zipIdx.map fun p => D.tup [.int p.2, p.1]).length = (dragP T p b v).length := by simp [dragP_len]
    simp only [hlen, List.take_length] at e0 ⊢
    simp [bltV, e0]
    exact h _ (Pf.app m _)
end
end HR

set_option linter.all false
set_option maxRecDepth 100000
set_option maxHeartbeats 1000000
/-! HR, mirror 11: hauls one after another. -/
namespace HR
open PySem
def haulD (h : Nat × Int) : D := .tup [.int h.1, .int h.2]
theorem atI_last {α : Type} {xs : List α} {x : α} : L2.atI (xs ++ [x]) (-1) = some x := by
  unfold L2.atI L2.ixN
  have h1 : (1 : Int) ≤ (xs.length : Int) + 1 := by omega
  have h2 : ((-1 : Int) + ((xs.length : Int) + 1)).toNat = xs.length := by omega
  simp [h1, h2]
theorem atI_lastM {α : Type} {xs : List α} {x : α} (h : xs.getLast? = some x) : L2.atI xs (-1) = some x := by
  obtain ⟨ys, rfl⟩ := List.getLast?_eq_some_iff.mp h
  exact atI_last
theorem one_big : 1 ≤ big := by unfold big; decide
/-- a haul that may be made -/
structure HaulOk (p : List Int) (h : Nat × Int) : Prop where
  b : h.1 < p.length
  lo : atP p h.1 ≤ h.2
  hi : h.2 ≤ 9999
/-- positions behind some hauls -/
def posAt (T : Ents) (p : List Int) (hs : List (Nat × Int)) (i : Nat) : List Int := (hs.take i).foldl (fun p h => dragP T p h.1 h.2) p
theorem posAt_zero (T : Ents) (p : List Int) (hs : List (Nat × Int)) : posAt T p hs 0 = p := rfl
theorem posAt_succ (T : Ents) (p : List Int) {hs : List (Nat × Int)} {i : Nat} {h : Nat × Int} (e : hs[i]? = some h) : posAt T p hs (i + 1) = dragP T (posAt T p hs i) h.1 h.2 := by
  unfold posAt
  rw [take_snoc e, List.foldl_append]
  rfl
theorem posAt_len (T : Ents) (p : List Int) (hs : List (Nat × Int)) (i : Nat) : (posAt T p hs i).length = p.length := by
  unfold posAt
  generalize hs.take i = l
  induction l generalizing p with
  | nil => rfl
  | cons h l ih => rw [List.foldl_cons, ih, dragP_len]
def StepsOk (T : Ents) (p : List Int) (hs : List (Nat × Int)) : Prop := ∀ (i : Nat) (h : Nat × Int), hs[i]? = some h → HaulOk (posAt T p hs i) h
/-- all positions on the way -/
def wayT (T : Ents) (p : List Int) (hs : List (Nat × Int)) (k : Nat) : List D := (List.range k).map fun i => posD (posAt T p hs i)
theorem wayT_succ (T : Ents) (p : List Int) (hs : List (Nat × Int)) (k : Nat) : wayT T p hs (k + 1) = wayT T p hs k ++ [posD (posAt T p hs k)] := by simp [wayT, List.range_succ]
theorem wayT_len (T : Ents) (p : List Int) (hs : List (Nat × Int)) (k : Nat) : (wayT T p hs k).length = k := by simp [wayT]
section
variable {G : Prog}
theorem isHaul_w (P : Pk G) (h29 : G.fns 29 = some fn29) {n : Nat} {p : List Int} {h : Nat × Int} {m : Mem} {Q : D → Mem → Prop} (hp : p.length ≤ 1000) (ok : HaulOk p h) (hQ : Q (.bl true) m) : (callN G (n + 2) 29 [posD p, haulD h] m).wp Q := by
  refine wp_call h29 rfl ?_
  have e0 : L2.atI [D.int (h.1 : Int), .int h.2] 0 = some (.int h.1) := rfl
  have e1 : L2.atI [D.int (h.1 : Int), .int h.2] 1 = some (.int h.2) := rfl
  have g0 := atI_pos ok.b
  have hb := ok.b
  have g1 : (h.1 : Int) ≤ (p.length : Int) - 1 := by omega
  have g2 := ok.lo
  have g3 := ok.hi
  simp [fn29, startS, haulD, isiV, boolOf, bltV, cmpV, idxV, e0, posD, binV, two_big, is_int P, g0, g1, e1, g2, g3]
  exact hQ
theorem hsteps_w (P : PkH G) (h29 : G.fns 29 = some fn29) (h31 : G.fns 31 = some fn31) {n o kd kh : Nat} {F : Fleet} {T : Ents} {p : List Int} {hs : List (Nat × Int)} {m : Mem} {Q : D → Mem → Prop} (t : TabAt m o kd F T false) (hp : p.length ≤ 1000) (hk : m[kh]? = some (.lst (hs.map haulD)))
    (hl : hs.length ≤ 1000) (ok : StepsOk T p hs) (h : ∀ m', Pf m m' → m'[m.length]? = some (.lst (wayT T p hs (hs.length + 1))) → Q (.ref m.length) m') : (callN G (n + 3) 31 [.ref o, posD p, .ref kh] m).wp Q := by
  refine wp_call h31 rfl ?_
  have hlk : kh < m.length := (List.getElem?_eq_some_iff.mp hk).1
  simp [fn31, startS, isiV, listAt, hk, boolOf, one_big]
  refine w_forS ?_
  have e0 : (m ++ [O.lst [posD p]])[kh]? = some (.lst (hs.map haulD)) := by rw [getLt hlk]; exact hk
  simp [mkIt, srcOf, listAt, e0, endIt]
  refine ws_for (fun i r m1 => (∃ x, m1 = m ++ .lst (wayT T p hs (i + 1)) :: x) ∧ ∃ a4 a5, r = [some (.ref o), some (posD p), some (.ref kh), some (.ref m.length), a4, a5]) ((hs.map haulD).zipIdx.map fun p => D.tup [.int p.2, p.1]) ?_
    ⟨⟨[], by simp [wayT, posAt_zero]⟩, none, none, rfl⟩ (fu_of (by simp; omega)) ?_ ?_
  · rintro i r m1 ⟨⟨x, rfl⟩, _⟩
    exact nth_enL ((Pf.app m _).get hk)
  · rintro i r m1 x hx ⟨⟨y, rfl⟩, a4, a5, rfl⟩
    obtain ⟨z, hz, rfl⟩ := en_get hx
    simp only [List.getElem?_map, Option.map_eq_some_iff] at hz
    obtain ⟨u, hu, rfl⟩ := hz
    have hlt := (List.getElem?_eq_some_iff.mp hu).1
    have hok := ok i u hu
    have e1 : (m ++ .lst (wayT T p hs (i + 1)) :: y)[m.length]? = some (.lst (wayT T p hs (i + 1))) := get0
    have e2 : L2.atI (wayT T p hs (i + 1)) (-1) = some (posD (posAt T p hs i)) := by rw [wayT_succ]; exact atI_last
    have hpl : (posAt T p hs i).length ≤ 1000 := by rw [posAt_len]; exact hp
    have e3 : L2.atI [D.int (u.1 : Int), .int u.2] 0 = some (.int u.1) := rfl
    have e4 : L2.atI [D.int (u.1 : Int), .int u.2] 1 = some (.int u.2) := rfl
    have tt : TabAt (m ++ .lst (wayT T p hs (i + 1)) :: y) o kd F T false := t.pf (Pf.app m _)
    refine ⟨_, by simp; rfl, ?_⟩
    simp [idxV, listAt, e1, e2, intOf]
    refine isHaul_w P h29 hpl hok ?_
    simp [boolOf, rcv, listAt, e1, idxV, e2, intOf, haulD, e3, e4]
    refine drag_w P tt hpl fun m' hm' => ?_
    obtain ⟨w, rfl⟩ := hm'
    have e5 : (m ++ .lst (wayT T p hs (i + 1)) :: y ++ w)[m.length]? = some (.lst (wayT T p hs (i + 1))) := by simp
    have hb : (wayT T p hs (i + 1)).length < big := by
      have hbig : big = 1000000 := rfl
      rw [wayT_len]; omega
    simp only [bmV, e5, hb, if_true, wpOk]
    refine ⟨y ++ w, ?_⟩
    rw [wayT_succ T p hs (i + 1), posAt_succ T p hu]
    simp
  · rintro r m1 ⟨⟨y, rfl⟩, a4, a5, rfl⟩
    simp only [List.length_map, List.length_zipIdx] at h ⊢
    simp
    refine h _ (Pf.app m _) ?_
    exact get0
theorem posAt_one (T : Ents) (p : List Int) (h : Nat × Int) : posAt T p [h] 1 = dragP T p h.1 h.2 := rfl
theorem haul_w (P : PkH G) (h29 : G.fns 29 = some fn29) (h31 : G.fns 31 = some fn31) (h32 : G.fns 32 = some fn32) {n : Nat} {F : Fleet} {p : List Int} {b : Nat} {v : Int} {m : Mem} {Q : D → Mem → Prop} (ok : F.Ok) (hp : PosOk F p) (hh : HaulOk p (b, v))
    (h : ∀ m', Pf m m' → Q (posD (dragP (chainT F) p b v)) m') : (callN G (n + 6) 32 [F.d, posD p, .int b, .int v] m).wp Q := by
  refine wp_call h32 rfl ?_
  simp [fn32, startS]
  refine start_w P ok hp fun m' o kd hpf t => ?_
  have hl : p.length ≤ 1000 := by rw [hp.len]; have := ok.n8; omega
  simp [one_big, two_big]
  have hk : (m' ++ [O.lst [D.tup [.int b, .int v]]])[m'.length]? = some (.lst ([(b, v)].map haulD)) := by simp [haulD]
  refine hsteps_w P h29 h31 (t.app _) hl hk (by simp) ?_ fun m2 hpf2 e => ?_
  · intro i u hu
    rcases i with _ | i
    · simp at hu; subst hu; exact hh
    · simp at hu
  · have e2 : L2.atI (wayT (chainT F) p [(b, v)] 2) (-1) = some (posD (dragP (chainT F) p b v)) := by rw [wayT_succ]; exact atI_last
    simp at e
    simp [idxV, listAt, e, e2, intOf]
    exact h _ ((hpf.trans (Pf.app _ _)).trans hpf2)
theorem haulAll_w (P : PkH G) (h29 : G.fns 29 = some fn29) (h31 : G.fns 31 = some fn31) (h33 : G.fns 33 = some fn33) {n kh : Nat} {F : Fleet} {p : List Int} {hs : List (Nat × Int)} {m : Mem} {Q : D → Mem → Prop} (ok : F.Ok) (hp : PosOk F p) (hk : m[kh]? = some (.lst (hs.map haulD)))
    (hl : hs.length ≤ 1000) (hh : StepsOk (chainT F) p hs) (h : ∀ m', Pf m m' → Q (posD (posAt (chainT F) p hs hs.length)) m') : (callN G (n + 6) 33 [F.d, posD p, .ref kh] m).wp Q := by
  refine wp_call h33 rfl ?_
  simp [fn33, startS]
  refine start_w P ok hp fun m' o kd hpf t => ?_
  have hl2 : p.length ≤ 1000 := by rw [hp.len]; have := ok.n8; omega
  refine hsteps_w P h29 h31 t hl2 (hpf.get hk) hl hh fun m2 hpf2 e => ?_
  have e2 : L2.atI (wayT (chainT F) p hs (hs.length + 1)) (-1) = some (posD (posAt (chainT F) p hs hs.length)) := by rw [wayT_succ]; exact atI_last
  simp [idxV, listAt, e, e2, intOf]
  exact h _ (hpf.trans hpf2)
end
end HR

set_option linter.all false
set_option maxRecDepth 100000
set_option maxHeartbeats 1000000
/-! HR, mirror 12: how the store grows; list comprehensions over it. -/
namespace HR
open PySem
/-- the store grows so -/
structure Grow (Rl : Mem → Mem → Prop) : Prop where
  refl : ∀ m, Rl m m
  trans : ∀ {a b c}, Rl a b → Rl b c → Rl a c
  app : ∀ m x, Rl m (m ++ x)
  put : ∀ {m m1 k o}, Rl m m1 → m.length ≤ k → Rl m (m1.set k o)
  get : ∀ {m m1 k o}, Rl m m1 → 1 ≤ k → m[k]? = some o → m1[k]? = some o
  len : ∀ {m m1}, Rl m m1 → m.length ≤ m1.length
theorem pfG : Grow Pf where
  refl := Pf.refl
  trans := Pf.trans
  app := Pf.app
  put := by
    rintro m m1 k o ⟨x, rfl⟩ hk
    exact ⟨x.set (k - m.length) o, by rw [List.set_append_right _ _ hk]⟩
  get := fun h _ e => h.get e
  len := Pf.len
/-- a row of draws at place 0 -/
def RowAt (ns : List Int) (m : Mem) : Prop := ∃ (i : Nat) (s t : Int), m[0]? = some (.lst [.scr ns, .int i, .int s, .int t])
structure Gw (ns : List Int) (m m' : Mem) : Prop where
  len : m.length ≤ m'.length
  get : ∀ k, 1 ≤ k → k < m.length → m'[k]? = m[k]?
  row : RowAt ns m → RowAt ns m'
theorem gwG (ns : List Int) : Grow (Gw ns) where
  refl := fun m => ⟨Nat.le_refl _, fun _ _ _ => rfl, id⟩
  trans := fun h g => ⟨Nat.le_trans h.len g.len, fun k h1 h2 => by rw [g.get k h1 (Nat.lt_of_lt_of_le h2 h.len), h.get k h1 h2], fun r => g.row (h.row r)⟩
  app := fun m x => ⟨by simp, fun k h1 h2 => getLt h2, fun ⟨i, s, t, e⟩ => ⟨i, s, t, by rw [getLt (List.getElem?_eq_some_iff.mp e).1]; exact e⟩⟩
  put := fun {m m1 k o} h hk => ⟨by rw [List.length_set]; exact h.len, fun j h1 h2 => by rw [List.getElem?_set_ne (by omega)]; exact h.get j h1 h2, fun r => by
    obtain ⟨i, s, t, e⟩ := h.row r
    have : 0 < m.length := by
      obtain ⟨i, s, t, e⟩ := r
      exact (List.getElem?_eq_some_iff.mp e).1
    exact ⟨i, s, t, by rw [List.getElem?_set_ne (by omega)]; exact e⟩⟩
  get := fun {m m1 k o} h h1 e => by rw [h.get k h1 (List.getElem?_eq_some_iff.mp e).1]; exact e
  len := fun h => h.len
theorem Pf.gw {ns : List Int} {m m' : Mem} (h : Pf m m') : Gw ns m m' := by
  obtain ⟨x, rfl⟩ := h
  exact (gwG ns).app m x
theorem TabAt.gw {ns : List Int} {m m' : Mem} {o kd : Nat} {F : Fleet} {T : Ents} {lk : Bool} (t : TabAt m o kd F T lk) (h : Gw ns m m') (ho : 1 ≤ o) (hk : 1 ≤ kd) : TabAt m' o kd F T lk := ⟨(gwG ns).get h ho t.ob, (gwG ns).get h hk t.dt⟩
/-- a list comprehension while the store grows -/
theorem lcG {Rl : Mem → Mem → Prop} (g : Grow Rl) {it : It} {turn : D → Mem → R (Option D)} {m : Mem} {Q : Unit → Mem → Prop} (xs : List D) (J : Nat → List D → Prop) (h1 : 1 ≤ m.length) (hl : xs.length ≤ 1000) (hit : ∀ i m1, Rl m m1 → it.nth i m1 = some xs[i]?) (j0 : J 0 [])
    (step : ∀ i x acc m1, xs[i]? = some x → J i acc → Rl m m1 → (turn x m1).wp fun o m' => Rl m1 m' ∧ match o with | none => J (i + 1) acc | some d => J (i + 1) (acc ++ [d]))
    (hend : ∀ acc m', J xs.length acc → Rl m m' → m'[m.length]? = some (.lst acc) → Q () m') : (lcLoop it turn m.length FU 0 (m ++ [.lst []])).wp Q := by
  refine wp_lc (fun i acc m1 => J i acc ∧ acc.length ≤ i ∧ Rl m m1 ∧ m1[m.length]? = some (.lst acc)) xs ?_ ?_ ⟨j0, Nat.le_refl _, g.app m _, get0⟩ (fu_of (by omega)) ?_ ?_
  · rintro i acc m1 ⟨_, _, h, _⟩
    exact hit i m1 h
  · rintro i acc m1 ⟨_, _, _, h⟩
    exact h
  · rintro i acc m1 x hx ⟨j, hlen, h, e⟩
    have hlt := (List.getElem?_eq_some_iff.mp hx).1
    refine (step i x acc m1 hx j h).mono fun o m' ⟨h2, j2⟩ => ?_
    have e2 := g.get h2 h1 e
    cases o with
    | none => exact ⟨j2, by omega, g.trans h h2, e2⟩
    | some d =>
      have hbig : big = 1000000 := rfl
      refine ⟨e2, by omega, j2, by simp; omega, g.put (g.trans h h2) (Nat.le_refl _), ?_⟩
      have := (List.getElem?_eq_some_iff.mp e2).1
      simp [List.getElem?_set_self this]
  · rintro acc m1 ⟨j, _, h, e⟩
    exact hend acc m1 j h e
/-- the distance of hauls -/
def distT (T : Ents) (p : List Int) (hs : List (Nat × Int)) (k : Nat) : List Int := (List.range k).map fun i => (hs.getD i (0, 0)).2 - atP (posAt T p hs i) (hs.getD i (0, 0)).1
theorem intsOf_map (l : List Int) : intsOf (l.map .int) = some l := by
  induction l with
  | nil => rfl
  | cons x l ih =>
    unfold intsOf at *
    rw [List.map_cons, List.mapM_cons, ih]
    rfl
section
variable {G : Prog}
theorem total_w (P : PkH G) (h29 : G.fns 29 = some fn29) (h31 : G.fns 31 = some fn31) (h34 : G.fns 34 = some fn34) {n kh : Nat} {F : Fleet} {p : List Int} {hs : List (Nat × Int)} {m : Mem} {Q : D → Mem → Prop} (ok : F.Ok) (hp : PosOk F p) (hk : m[kh]? = some (.lst (hs.map haulD)))
    (hl : hs.length ≤ 900) (hh : StepsOk (chainT F) p hs) (h : ∀ m', Pf m m' → Q (.int (distT (chainT F) p hs hs.length).sum) m') : (callN G (n + 6) 34 [F.d, posD p, .ref kh] m).wp Q := by
  refine wp_call h34 rfl ?_
  simp [fn34, startS]
  refine start_w P ok hp fun m' o kd hpf t => ?_
  have hl2 : p.length ≤ 1000 := by rw [hp.len]; have := ok.n8; omega
  refine hsteps_w P h29 h31 t hl2 (hpf.get hk) (by omega) hh fun m2 hpf2 e => ?_
  have hk2 := (hpf.trans hpf2).get hk
  refine w_lc ?_
  simp [mkIt, srcOf, listAt, e, hk2]
  have hzip : (List.zipWith (fun (a b : D) => D.tup [a, b]) (hs.map haulD) (wayT (chainT F) p hs (hs.length + 1))).length = hs.length := by simp [wayT_len]
  refine lcG pfG (List.zipWith (fun (a b : D) => D.tup [a, b]) (hs.map haulD) (wayT (chainT F) p hs (hs.length + 1))) (fun i acc => acc = (distT (chainT F) p hs i).map .int) ?_ (by rw [hzip]; omega) ?_ rfl ?_ ?_
  · have := (List.getElem?_eq_some_iff.mp e).1
    omega
  · intro i m1 hm
    simp [It.nth, Src.all, listAt, hm.get hk2, hm.get e, List.getElem?_zipWith]
    cases hs[i]? <;> simp
    cases (wayT (chainT F) p hs (hs.length + 1))[i]? <;> simp
  · rintro i x acc m1 hx rfl hm
    have hlt := (List.getElem?_eq_some_iff.mp hx).1
    rw [hzip] at hlt
    have e1 : hs[i]? = some hs[i] := List.getElem?_eq_getElem hlt
    have e2 : (wayT (chainT F) p hs (hs.length + 1))[i]? = some (posD (posAt (chainT F) p hs i)) := by
      simp [wayT, List.getElem?_map, List.getElem?_range (by omega : i < hs.length + 1)]
    have hok := hh i _ e1
    have e3 := atI_pos hok.b
    simp only [List.getElem?_zipWith, List.getElem?_map, e1, e2, Option.map_some] at hx
    cases hx
    refine w_turnL (by simp [wipeS, haulD]; rfl) ?_
    simp [condB, posD, idxV, e3, binV]
    refine ⟨Pf.refl _, ?_⟩
    simp [distT, List.range_succ, List.getD, e1]
  · rintro acc m1 rfl hm e1
    rw [hzip] at e1
    simp [endIt, bltV, listAt, e1, intsOf_map]
    exact h _ ((hpf.trans hpf2).trans hm)
end
end HR

set_option linter.all false
set_option maxRecDepth 100000
set_option maxHeartbeats 1000000
/-! HR, mirror 13: dragged barges, wishes. -/
namespace HR
open PySem
theorem TabAt.pos {m : Mem} {o kd : Nat} {F : Fleet} {T : Ents} {lk : Bool} (t : TabAt m o kd F T lk) : 1 ≤ m.length := by
  have := (List.getElem?_eq_some_iff.mp t.ob).1
  omega
def aheadL (T : Ents) (p : List Int) (b : Nat) (v : Int) (k : Nat) : List Nat := (List.range k).filter fun i => decide (atP p i < atP (dragP T p b v) i)
def natD (i : Nat) : D := .int (i : Int)
theorem cmpGt {m : Mem} {i j : Int} : cmpV .Gt (.int i) (.int j) m = some (decide (i > j)) := by simp [cmpV]
section
variable {G : Prog}
theorem dragged_w (P : PkH G) (h29 : G.fns 29 = some fn29) (h31 : G.fns 31 = some fn31) (h32 : G.fns 32 = some fn32) (h57 : G.fns 57 = some fn57) {n : Nat} {F : Fleet} {p : List Int} {b : Nat} {v : Int} {m : Mem} {Q : D → Mem → Prop} (h1 : 1 ≤ m.length) (ok : F.Ok) (hp : PosOk F p) (hh : HaulOk p (b, v))
    (h : ∀ m' k, Pf m m' → m.length ≤ k → m'[k]? = some (.lst (((aheadL (chainT F) p b v p.length).filter fun i => decide (i ≠ b)).map natD)) → Q (.ref k) m') : (callN G (n + 7) 57 [F.d, posD p, .int b, .int v] m).wp Q := by
  refine wp_call h57 rfl ?_
  simp [fn57, startS]
  refine haul_w P h29 h31 h32 ok hp hh fun m1 hm1 => ?_
  have hl : p.length ≤ 1000 := by rw [hp.len]; have := ok.n8; omega
  have h2 : 1 ≤ m1.length := Nat.le_trans h1 hm1.len
  refine w_lc ?_
  simp [posD, mkIt, srcOf]
  refine lcG pfG ((p.map D.int).zipIdx.map fun p => D.tup [.int p.2, p.1]) (fun i acc => acc = (aheadL (chainT F) p b v i).map natD) h2 (by simp; omega) (fun i m1 _ => nth_en) rfl ?_ ?_
  · rintro i x acc m2 hx rfl hm2
    obtain ⟨y, hy, rfl⟩ := en_get hx
    simp only [List.getElem?_map, Option.map_eq_some_iff] at hy
    obtain ⟨u, hu, rfl⟩ := hy
    have hlt := (List.getElem?_eq_some_iff.mp hu).1
    have hat := atP_get hu
    have e1 := atI_pos (p := dragP (chainT F) p b v) (i := i) (by rw [dragP_len]; exact hlt)
    refine w_turnL (by simp [wipeS]; rfl) ?_
    simp [idxV, e1, cmpGt, condB, aheadL, List.range_succ, List.filter_append]
    have es : (List.filter (fun i => decide (atP p i < atP (dragP (chainT F) p b v) i)) [i]) = if u < atP (dragP (chainT F) p b v) i then [i] else [] := by
      by_cases hc : u < atP (dragP (chainT F) p b v) i <;> simp [hat, hc]
    by_cases hc : u < atP (dragP (chainT F) p b v) i
    · simp [hc, hat, natD]
      exact Pf.refl _
    · simp [hc, hat]
      exact ⟨Pf.refl _, by omega⟩
  · rintro acc m2 rfl hm2 e2
    simp only [List.length_map, List.length_zipIdx] at e2
    have h3 : 1 ≤ m2.length := Nat.le_trans h2 hm2.len
    simp [endIt]
    refine w_lc ?_
    simp [mkIt, srcOf, listAt, e2]
    have hL : (aheadL (chainT F) p b v p.length).length ≤ 1000 := by
      have : (aheadL (chainT F) p b v p.length).length ≤ (List.range p.length).length := List.length_filter_le _ _
      rw [List.length_range] at this
      omega
    generalize aheadL (chainT F) p b v p.length = L at *
    refine lcG pfG (L.map natD) (fun i acc => acc = ((L.take i).filter fun i => decide (i ≠ b)).map natD) h3 ?_ (fun i m3 h => nth_lst (h.get e2)) rfl ?_ ?_
    · simpa using hL
    · rintro i x acc m3 hx rfl hm3
      simp only [List.getElem?_map, Option.map_eq_some_iff] at hx
      obtain ⟨u, hu, rfl⟩ := hx
      refine w_turnL (by simp [wipeS]; rfl) ?_
      rw [take_snoc hu, List.filter_append]
      by_cases hc : u = b
      · subst hc
        simp [natD, cmpV, condB]
        exact Pf.refl _
      · have hc2 : ¬ (u : Int) = (b : Int) := by omega
        simp [natD, cmpV, condB, hc, hc2]
        exact Pf.refl _
    · rintro acc m3 rfl hm3 e3
      simp only [List.length_map, List.take_length] at e3
      simp [endIt]
      exact h _ _ ((hm1.trans hm2).trans hm3) (Nat.le_trans hm1.len hm2.len) e3
end
end HR

set_option linter.all false
set_option maxRecDepth 100000
set_option maxHeartbeats 1000000
/-! HR, mirror 14: wishes, least positions. -/
namespace HR
open PySem
def wishD (ws : List (Option Int)) : D := .tup (ws.map optD)
structure WishOk (F : Fleet) (ws : List (Option Int)) : Prop where
  len : ws.length = F.n
  lo : ∀ w, some w ∈ ws → -9999 ≤ w
  hi : ∀ w, some w ∈ ws → w ≤ 9999
def lpAt (T : Ents) (p : List Int) (ws : List (Option Int)) : Nat → List Int
  | 0 => p
  | i + 1 => match ws[i]? with
    | some (some w) => if atP (lpAt T p ws i) i < w then dragP T (lpAt T p ws i) i w else lpAt T p ws i
    | _ => lpAt T p ws i
theorem lpAt_len (T : Ents) (p : List Int) (ws : List (Option Int)) : ∀ i, (lpAt T p ws i).length = p.length
  | 0 => rfl
  | i + 1 => by
    unfold lpAt
    split
    · split
      · rw [dragP_len]; exact lpAt_len T p ws i
      · exact lpAt_len T p ws i
    · exact lpAt_len T p ws i
theorem cmpIsN {m : Mem} {o : Option Int} : cmpV .Is (optD o) .non m = some o.isNone := by cases o <;> rfl
theorem cmpIsNotN {m : Mem} {o : Option Int} : cmpV .IsNot (optD o) .non m = some o.isSome := by cases o <;> rfl
section
variable {G : Prog}
theorem wish_w (P : Pk G) (h35 : G.fns 35 = some fn35) {n : Nat} {F : Fleet} {ws : List (Option Int)} {m : Mem} {Q : D → Mem → Prop} (ok : F.Ok) (hw : WishOk F ws) (h : Q .non m) : (callN G (n + 2) 35 [F.d, wishD ws] m).wp Q := by
  refine wp_call h35 rfl ?_
  have hl := hw.len
  have h8 := ok.n8
  have e0 : L2.atI [D.int (F.n : Int), .tup (F.rs.map ropeD)] 0 = some (.int F.n) := rfl
  simp [fn35, startS, isiV, boolOf, wishD]
  refine w_forS ?_
  simp [mkIt, srcOf, endIt]
  refine ws_for (fun _ r m1 => m1 = m ∧ ∃ a b, r = [some F.d, some (wishD ws), a, b]) ((ws.map optD).zipIdx.map fun p => D.tup [.int p.2, p.1]) (fun _ _ _ _ => nth_en) ⟨rfl, none, none, rfl⟩ (fu_of (by simp; omega)) ?_ ?_
  · rintro i r m1 x hx ⟨rfl, a, b, rfl⟩
    obtain ⟨y, hy, rfl⟩ := en_get hx
    simp only [List.getElem?_map, Option.map_eq_some_iff] at hy
    obtain ⟨v, hv, rfl⟩ := hy
    have hi := (List.getElem?_eq_some_iff.mp hv).1
    have hm := List.mem_of_getElem? hv
    have g3 : ¬ (i : Int) = (F.n : Int) := by omega
    refine ⟨_, by simp; rfl, ?_⟩
    cases v with
    | none => simp [cmpV, boolOf, Fleet.d, idxV, e0, g3, optD, isNon]
    | some w =>
      have g1 := hw.lo w hm
      have g2 := hw.hi w hm
      simp [cmpV, boolOf, Fleet.d, idxV, e0, g3, optD, isNon, is_int P, g1, g2, intOf]
  · rintro r m1 ⟨rfl, a, b, rfl⟩
    simp [bltV, wishD, Fleet.d, idxV, e0, cmpV, boolOf, hl]
    exact h
theorem least_w (P : PkH G) (h35 : G.fns 35 = some fn35) (h36 : G.fns 36 = some fn36) {n : Nat} {F : Fleet} {p : List Int} {ws : List (Option Int)} {m : Mem} {Q : D → Mem → Prop} (ok : F.Ok) (hp : PosOk F p) (hw : WishOk F ws)
    (h : ∀ m', Pf m m' → Q (posD (lpAt (chainT F) p ws F.n)) m') : (callN G (n + 5) 36 [F.d, posD p, wishD ws] m).wp Q := by
  refine wp_call h36 rfl ?_
  have hl := hw.len
  have h8 := ok.n8
  have hpl := hp.len
  simp [fn36, startS]
  refine chk_fleet P ok ?_
  refine valid_w P ok hp ?_
  refine wish_w P h35 ok hw ?_
  refine cons_tab P ok (chain_ok ok hp.val) fun m1 o kd hm1 t => ?_
  simp [setMany]
  refine w_forS ?_
  simp [wishD, mkIt, srcOf, endIt]
  refine ws_for (fun i r m2 => Pf m1 m2 ∧ ∃ a b, r = [some F.d, some (posD p), some (wishD ws), some (.ref o), some (posD (lpAt (chainT F) p ws i)), a, b]) ((ws.map optD).zipIdx.map fun p => D.tup [.int p.2, p.1]) (fun _ _ _ _ => nth_en) ⟨Pf.refl _, none, none, rfl⟩ (fu_of (by simp; omega)) ?_ ?_
  · rintro i r m2 x hx ⟨hm2, a, b, rfl⟩
    obtain ⟨y, hy, rfl⟩ := en_get hx
    simp only [List.getElem?_map, Option.map_eq_some_iff] at hy
    obtain ⟨v, hv, rfl⟩ := hy
    have hi := (List.getElem?_eq_some_iff.mp hv).1
    have e1 := atI_pos (p := lpAt (chainT F) p ws i) (i := i) (by rw [lpAt_len]; omega)
    refine ⟨_, by simp; rfl, ?_⟩
    cases v with
    | none =>
      have e2 : lpAt (chainT F) p ws (i + 1) = lpAt (chainT F) p ws i := by rw [lpAt, hv]
      simp [cmpV, boolOf, optD, isNon, e2]
      exact hm2
    | some w =>
      have e2 : lpAt (chainT F) p ws (i + 1) = if atP (lpAt (chainT F) p ws i) i < w then dragP (chainT F) (lpAt (chainT F) p ws i) i w else lpAt (chainT F) p ws i := by rw [lpAt, hv]
      have e3 : cmpV .IsNot (optD (some w)) .non m2 = some true := rfl
      simp [e3, boolOf]
      simp [optD, posD, idxV, e1, cmpGt, boolOf]
      by_cases hc : atP (lpAt (chainT F) p ws i) i < w
      · simp only [hc, decide_true, if_true] at e2 ⊢
        refine drag_w P (t.pf hm2) (by rw [lpAt_len]; omega) fun m3 hm3 => ?_
        exact ⟨hm2.trans hm3, by rw [e2]; rfl⟩
      · simp only [hc, if_false] at e2
        simp [hc, e2]
        exact hm2
  · rintro r m2 ⟨hm2, a, b, rfl⟩
    simp [hl]
    exact h _ (((Pf.app _ _).trans hm1).trans hm2)
end
end HR

set_option linter.all false
set_option maxRecDepth 100000
set_option maxHeartbeats 1000000
/-! HR, mirror 15: == of rows; greatest positions. -/
namespace HR
open PySem
def pO (o : Option Int) : PyData := (o.map PyData.int).getD .none
theorem toPy_optD {m : Mem} {n : Nat} {o : Option Int} : toPy m (n + 1) (optD o) = some (pO o) := by cases o <;> rfl
theorem toPys_optD {m : Mem} {n : Nat} (os : List (Option Int)) : (os.map optD).mapM (toPy m (n + 1)) = some (os.map pO) := by
  induction os with
  | nil => rfl
  | cons o os ih => rw [List.map_cons, List.mapM_cons, ih, toPy_optD]; rfl
theorem lay_pO (o : Option Int) : (pO o).canLay0 = true := by cases o <;> rfl
theorem dep_pO (o : Option Int) : (pO o).depth = 0 := by cases o <;> rfl
theorem lay_pOs (os : List (Option Int)) : PyData.canLayAll0 (os.map pO) = true := by
  induction os with
  | nil => rfl
  | cons o os ih => simp [PyData.canLayAll0, ih, lay_pO]
theorem dep_pOs (os : List (Option Int)) : PyData.depthAll (os.map pO) = 0 := by
  induction os with
  | nil => rfl
  | cons o os ih => simp [PyData.depthAll, ih, dep_pO]
theorem py_tupO {m : Mem} (os : List (Option Int)) : pyOk m (.tup (os.map optD)) = some (.tuple (os.map pO)) := by
  simp [-List.mapM_map, pyOk, toPy, toPys_optD, SeqAt.shaped, PyData.canLay0, PyData.depth, lay_pOs, dep_pOs]
theorem py_lstO {m : Mem} {k : Nat} {os : List (Option Int)} (h : m[k]? = some (.lst (os.map optD))) : pyOk m (.ref k) = some (.list (os.map pO)) := by
  simp [-List.mapM_map, pyOk, toPy, listAt, h, toPys_optD, SeqAt.shaped, PyData.canLay0, PyData.depth, lay_pOs, dep_pOs]
theorem ints_optD (l : List Int) : l.map D.int = (l.map some).map optD := by simp [optD, Function.comp_def]
theorem eq_pos {m : Mem} (p : List Int) : eqD m (posD p) (posD p) = some true := by
  unfold posD
  rw [ints_optD]
  exact eqSame (py_tupO _) (py_tupO _)
theorem eq_wish {m : Mem} (p : List (Option Int)) : eqD m (wishD p) (wishD p) = some true := eqSame (py_tupO p) (py_tupO p)
theorem eq_ints {m : Mem} {a b : Nat} {l : List Int} (h : m[a]? = some (.lst (l.map .int))) (h2 : m[b]? = some (.lst (l.map .int))) : eqD m (.ref a) (.ref b) = some true := by
  rw [ints_optD] at h h2
  exact eqSame (py_lstO h) (py_lstO h2)
theorem eq_emp {m : Mem} {a b : Nat} {l : List Int} (h : m[a]? = some (.lst (l.map .int))) (h2 : m[b]? = some (.lst [])) : eqD m (.ref a) (.ref b) = some l.isEmpty := by
  have e : pyOk m (.ref a) = some (.list ((l.map some).map pO)) := py_lstO (by rw [ints_optD] at h; exact h)
  have e2 : pyOk m (.ref b) = some (.list (([] : List (Option Int)).map pO)) := py_lstO h2
  simp only [eqD, e, e2, Option.bind_some]
  cases l <;> simp [PyData.eqv, PyData.eqvAll]
def pairD (q : Int × Option Int) : D := .tup [.int q.1, optD q.2]
def pP (q : Int × Option Int) : PyData := .tuple [.int q.1, pO q.2]
theorem toPys_pair {m : Mem} {n : Nat} (qs : List (Int × Option Int)) : (qs.map pairD).mapM (toPy m (n + 2)) = some (qs.map pP) := by
  induction qs with
  | nil => rfl
  | cons q qs ih =>
    rw [List.map_cons, List.mapM_cons, ih]
    simp [pairD, toPy, toPy_optD, pP]
theorem lay_pPs (qs : List (Int × Option Int)) : PyData.canLayAll0 (qs.map pP) = true := by
  induction qs with
  | nil => rfl
  | cons o os ih => simp [PyData.canLayAll0, ih, lay_pO, pP, PyData.canLay0]
theorem dep_pPs (qs : List (Int × Option Int)) : PyData.depthAll (qs.map pP) ≤ 1 := by
  induction qs with
  | nil => exact Nat.zero_le _
  | cons o os ih =>
    simp [PyData.depthAll, dep_pO, pP, PyData.depth]
    exact Nat.max_le.mpr ⟨Nat.le_refl _, ih⟩
theorem eq_pairs {m : Mem} {a b : Nat} {qs : List (Int × Option Int)} (h : m[a]? = some (.lst (qs.map pairD))) (h2 : m[b]? = some (.lst (qs.map pairD))) : eqD m (.ref a) (.ref b) = some true := by
  have e : ∀ k, m[k]? = some (.lst (qs.map pairD)) → pyOk m (.ref k) = some (.list (qs.map pP)) := fun k h => by
    have := dep_pPs qs
    have hd : PyData.depthAll (qs.map pP) + 1 ≤ 64 := by omega
    simp [-List.mapM_map, pyOk, toPy, listAt, h, toPys_pair, SeqAt.shaped, PyData.canLay0, PyData.depth, lay_pPs, hd]
  exact eqSame (e a h) (e b h2)
/-! ### greatest positions -/
def gsum (T : Ents) (i j : Nat) (l : Option Int) : Option Int := l.bind fun a => (look T (i, j)).map fun d => a + d
def gsums (T : Ents) (ls : List (Option Int)) (i k : Nat) : List Int := (List.range k).filterMap fun j => gsum T i j (ls.getD j none)
def minO : List Int → Option Int
  | [] => none
  | x :: xs => some (xs.foldl min x)
def grT (T : Ents) (ls : List (Option Int)) (k : Nat) : List (Option Int) := (List.range k).map fun i => minO (gsums T ls i ls.length)
theorem gsums_succ (T : Ents) {ls : List (Option Int)} {i k : Nat} {l : Option Int} (h : ls[k]? = some l) : gsums T ls i (k + 1) = gsums T ls i k ++ (gsum T i k l).toList := by
  simp only [gsums, List.range_succ, List.filterMap_append, List.getD, h]
  congr 1
  simp only [List.filterMap_cons, List.filterMap_nil, h, Option.getD_some]
  cases gsum T i k l <;> rfl
theorem gsums_len (T : Ents) (ls : List (Option Int)) (i k : Nat) : (gsums T ls i k).length ≤ k := by
  have := List.length_filterMap_le (fun j => gsum T i j (ls.getD j none)) (List.range k)
  rw [List.length_range] at this
  exact this
end HR

set_option linter.all false
set_option maxRecDepth 100000
set_option maxHeartbeats 1000000
/-! HR, mirror 16: greatest positions. -/
namespace HR
open PySem
theorem grT_succ (T : Ents) (ls : List (Option Int)) (k : Nat) : grT T ls (k + 1) = grT T ls k ++ [minO (gsums T ls k ls.length)] := by simp [grT, List.range_succ]
theorem grT_len (T : Ents) (ls : List (Option Int)) (k : Nat) : (grT T ls k).length = k := by simp [grT]
section
variable {G : Prog}
theorem greatest_w (P : Pk G) (h55 : G.fns 55 = some fn55) {n o kd : Nat} {F : Fleet} {T : Ents} {ls : List (Option Int)} {m : Mem} {Q : D → Mem → Prop} (ok : F.Ok) (t : TabAt m o kd F T false) (hl : ls.length ≤ 1000)
    (h : ∀ m', Pf m m' → Q (wishD (grT T ls F.n)) m') : (callN G (n + 2) 55 [.ref o, wishD ls] m).wp Q := by
  refine wp_call h55 rfl ?_
  have h8 := ok.n8
  have hbig : big = 1000000 := rfl
  have hlim : lim62 (F.n : Int) = true := by simp [lim62]; omega
  simp [fn55, startS]
  refine w_forS ?_
  have t0 := t.app [.lst []]
  simp [fldV, t0.ob, List.lookup, mkIt, hlim, endIt]
  refine ws_for (fun i r m1 => (∃ x, m1 = m ++ .lst ((grT T ls i).map optD) :: x) ∧ ∃ a3 a4 a5 a6 a7, r = [some (.ref o), some (wishD ls), some (.ref m.length), a3, a4, a5, a6, a7]) ((List.range F.n).map fun (j : Nat) => D.int (0 + j)) (fun _ _ _ _ => nth_rng) ⟨⟨[], rfl⟩, none, none, none, none, none, rfl⟩
    (fu_of (by simp; omega)) ?_ ?_
  · rintro i r m1 x hx ⟨⟨y, rfl⟩, a3, a4, a5, a6, a7, rfl⟩
    simp only [List.getElem?_map, Option.map_eq_some_iff] at hx
    obtain ⟨j, hj, rfl⟩ := hx
    have hi : i < F.n := by have := (List.getElem?_eq_some_iff.mp hj).1; simpa using this
    rw [List.getElem?_range hi] at hj
    cases hj
    refine ⟨_, by simp; rfl, ?_⟩
    have tt : TabAt (m ++ .lst ((grT T ls i).map optD) :: y) o kd F T false := t.pf (Pf.app m _)
    have eg : (m ++ .lst ((grT T ls i).map optD) :: y)[m.length]? = some (.lst ((grT T ls i).map optD)) := get0
    have hgl := grT_len T ls i
    have hml : m.length < (m ++ .lst ((grT T ls i).map optD) :: y).length := (List.getElem?_eq_some_iff.mp eg).1
    have hset : ∀ z w, (m ++ .lst ((grT T ls i).map optD) :: y ++ w).set m.length z = m ++ z :: (y ++ w) := by intro z w; simp
    generalize hm1 : m ++ .lst ((grT T ls i).map optD) :: y = m1 at *
    simp only [w_consS, w_asg, w_lst, w_nil, List.length_nil, Nat.zero_le, true_and, a_pat, a_name, wpOf, osat_some, thenNx]
    refine w_forS ?_
    simp [wishD, mkIt, srcOf, endIt]
    refine ws_for (fun k r m3 => m3 = m1 ++ [.lst ((gsums T ls i k).map .int)] ∧ ∃ a5 a6 a7, r = [some (.ref o), some (wishD ls), some (.ref m.length), some (.int i), some (.ref m1.length), a5, a6, a7]) ((ls.map optD).zipIdx.map fun p => D.tup [.int p.2, p.1]) (fun _ _ _ _ => nth_en) ⟨rfl, a5, a6, a7, by simp [wishD]⟩ (fu_of (by simp; omega)) ?_ ?_
    · rintro k r m3 x hx ⟨rfl, b5, b6, b7, rfl⟩
      obtain ⟨z, hz, rfl⟩ := en_get hx
      simp only [List.getElem?_map, Option.map_eq_some_iff] at hz
      obtain ⟨l, hl2, rfl⟩ := hz
      have hk := (List.getElem?_eq_some_iff.mp hl2).1
      refine ⟨_, by simp; rfl, ?_⟩
      have t2 := tt.app [.lst ((gsums T ls i k).map .int)]
      have e2 : (m1 ++ [O.lst ((gsums T ls i k).map .int)])[m1.length]? = some (.lst ((gsums T ls i k).map .int)) := get0
      have hgs := gsums_succ T hl2 (i := i)
      have hgl2 := gsums_len T ls i k
      have hb : ((gsums T ls i k).map D.int).length < big := by simp; omega
      simp only [w_consS, w_asg]
      refine w_meth ?_
      simp [clsOf, t2.ob, P.m3]
      refine len_w P t2 ?_
      cases l with
      | none =>
        have e3 : gsum T i k none = none := rfl
        rw [e3] at hgs
        simp [hgs, cmpV, optD, isNon, boolOf]
      | some v =>
        cases hlk : look T (i, k) with
        | none =>
          have e3 : gsum T i k (some v) = none := by simp [gsum, hlk]
          rw [e3] at hgs
          simp [hgs, cmpV, optD, isNon, boolOf]
        | some d =>
          have e3 : gsum T i k (some v) = some (v + d) := by simp [gsum, hlk]
          rw [e3] at hgs
          simp [cmpV, optD, isNon, boolOf, rcv, listAt, e2, binV]
          simp only [bmV, e2, hb, if_true, wpOk]
          simp [hgs]
    · rintro r m3 ⟨rfl, b5, b6, b7, rfl⟩
      simp only [List.length_map, List.length_zipIdx]
      have e1 : (m1 ++ [O.lst ((gsums T ls i ls.length).map .int)])[m.length]? = some (.lst ((grT T ls i).map optD)) := by rw [getLt hml]; exact eg
      have e3 : (m1 ++ [O.lst ((gsums T ls i ls.length).map .int), .lst []])[m.length]? = some (.lst ((grT T ls i).map optD)) := by rw [getLt hml]; exact eg
      have e2 : (m1 ++ [O.lst ((gsums T ls i ls.length).map .int), .lst []])[m1.length]? = some (.lst ((gsums T ls i ls.length).map .int)) := get0
      have e4 : (m1 ++ [O.lst ((gsums T ls i ls.length).map .int), .lst []])[m1.length + 1]? = some (.lst []) := get1
      have e5 := eq_emp e2 e4
      have hb : ((grT T ls i).map optD).length < big := by simp; omega
      simp [rcv, listAt, e1]
      refine osat_of (a := !(gsums T ls i ls.length).isEmpty) (by simp only [cmpV]; rw [e5]; rfl) ?_
      cases hg : gsums T ls i ls.length with
      | nil =>
        rw [hg] at e3
        simp [boolOf]
        simp at e3
        simp only [bmV, e3, hb, if_true, wpOk]
        refine ⟨⟨y ++ [.lst [], .lst []], ?_⟩, by first | rfl | exact ⟨_, rfl⟩ | simp [wishD]⟩
        rw [hset, grT_succ, hg]
        simp [minO, optD]
      | cons v vs =>
        rw [hg] at e2 e3
        simp at e2 e3
        have e6 := intsOf_map (v :: vs)
        simp at e6
        simp [boolOf, bltV, listAt, e2, e6]
        simp only [bmV, e3, hb, if_true, wpOk]
        refine ⟨⟨y ++ [.lst (.int v :: vs.map .int), .lst []], ?_⟩, by first | rfl | exact ⟨_, rfl⟩ | simp [wishD]⟩
        rw [hset, grT_succ, hg]
        simp [minO, optD]
  · rintro r m1 ⟨⟨y, rfl⟩, a3, a4, a5, a6, a7, rfl⟩
    simp [bltV]
    exact h _ (Pf.app m _)
end
end HR

set_option linter.all false
set_option maxRecDepth 100000
set_option maxHeartbeats 1000000
/-! HR, mirror 17: greatest positions and ranges, from outside. -/
namespace HR
open PySem
section
variable {G : Prog}
theorem greatestP_w (P : Pk G) (h35 : G.fns 35 = some fn35) (h55 : G.fns 55 = some fn55) (h56 : G.fns 56 = some fn56) {n : Nat} {F : Fleet} {ls : List (Option Int)} {m : Mem} {Q : D → Mem → Prop} (ok : F.Ok) (hd : DiagOk F) (hw : WishOk F ls)
    (h : ∀ m', Pf m m' → Q (wishD (grT (chainT F) ls F.n)) m') : (callN G (n + 5) 56 [F.d, wishD ls] m).wp Q := by
  refine wp_call h56 rfl ?_
  have hl := hw.len
  have h8 := ok.n8
  simp [fn56, startS]
  refine chk_fleet P ok ?_
  refine wish_w P h35 ok hw ?_
  refine cons_tab P ok hd fun m1 o kd hm1 t => ?_
  refine greatest_w P h55 ok t (by omega) fun m2 hm2 => ?_
  exact h _ (hm1.trans hm2)
/-- the first pair that is too low -/
def lowAt (p : List Int) (gs : List (Option Int)) (i : Nat) : Prop := ∃ x g, p[i]? = some x ∧ gs[i]? = some (some g) ∧ g < x
theorem ranges_w (P : PkH G) (h35 : G.fns 35 = some fn35) (h55 : G.fns 55 = some fn55) (h58 : G.fns 58 = some fn58) {n : Nat} {F : Fleet} {p : List Int} {ls : List (Option Int)} {m : Mem} {Q : D → Mem → Prop} (ok : F.Ok) (hp : PosOk F p) (hw : WishOk F ls)
    (h1 : ∀ m' i, Pf m m' → lowAt p (grT (chainT F) ls F.n) i → Q .non m') (h2 : ∀ m' k, Pf m m' → m.length ≤ k → (∀ i, ¬ lowAt p (grT (chainT F) ls F.n) i) → m'[k]? = some (.lst ((p.zip (grT (chainT F) ls F.n)).map pairD)) → Q (.ref k) m') :
    (callN G (n + 5) 58 [F.d, posD p, wishD ls] m).wp Q := by
  refine wp_call h58 rfl ?_
  have hl := hw.len
  have hpl := hp.len
  have h8 := ok.n8
  simp [fn58, startS]
  refine chk_fleet P ok ?_
  refine valid_w P ok hp ?_
  refine wish_w P h35 ok hw ?_
  refine cons_tab P ok (chain_ok ok hp.val) fun m1 o kd hm1 t => ?_
  refine greatest_w P h55 ok t (by omega) fun m2 hm2 => ?_
  have hf : Pf m m2 := ((Pf.app _ _).trans hm1).trans hm2
  have hgl := grT_len (chainT F) ls F.n
  generalize hgs : grT (chainT F) ls F.n = gs at *
  refine w_forS ?_
  simp [posD, wishD, mkIt, srcOf, endIt]
  have hzip : (List.zipWith (fun (a b : D) => D.tup [a, b]) (p.map D.int) (gs.map optD)).length = F.n := by simp [hpl, hgl]
  refine ws_for (fun i r m3 => m3 = m2 ∧ (∀ j < i, ¬ lowAt p gs j) ∧ ∃ a b, r = [some F.d, some (posD p), some (wishD ls), some (wishD gs), a, b]) (List.zipWith (fun (a b : D) => D.tup [a, b]) (p.map D.int) (gs.map optD)) ?_ ⟨rfl, fun _ h => absurd h (Nat.not_lt_zero _), none, none, rfl⟩ (fu_of (by rw [hzip]; omega)) ?_ ?_
  · intro i r m3 _
    simp [It.nth, Src.all, List.getElem?_zipWith]
    cases p[i]? <;> simp
    cases gs[i]? <;> simp
  · rintro i r m3 x hx ⟨rfl, hj, a, b, rfl⟩
    have hlt := (List.getElem?_eq_some_iff.mp hx).1
    rw [hzip] at hlt
    have e1 : p[i]? = some p[i] := List.getElem?_eq_getElem (by omega)
    have e2 : gs[i]? = some gs[i] := List.getElem?_eq_getElem (by omega)
    simp only [List.getElem?_zipWith, List.getElem?_map, e1, e2, Option.map_some] at hx
    cases hx
    generalize p[i] = x at *
    generalize gs[i] = g at *
    refine ⟨_, by simp; rfl, ?_⟩
    have hstep : (∀ y, g = some y → ¬ y < x) → ∀ j < i + 1, ¬ lowAt p gs j := by
      intro hn j hji
      by_cases hc : j = i
      · subst hc
        rintro ⟨x2, g2, z1, z2, z3⟩
        rw [e1] at z1
        rw [e2] at z2
        cases z1
        cases z2
        exact hn _ rfl z3
      · exact hj j (by omega)
    cases g with
    | none =>
      simp [cmpV, optD, isNon, boolOf]
      exact hstep (fun y h => by cases h)
    | some y =>
      by_cases hc : y < x
      · simp [cmpV, optD, isNon, boolOf, hc]
        exact h1 _ i hf ⟨x, y, e1, e2, hc⟩
      · simp [cmpV, optD, isNon, boolOf, hc]
        exact hstep (fun z h => by cases h; exact hc)
  · rintro r m3 ⟨rfl, hj, a, b, rfl⟩
    have hz2 : List.zipWith (fun (a b : D) => D.tup [a, b]) (p.map D.int) (gs.map optD) = (p.zip gs).map pairD := by
      rw [List.zipWith_map, List.zip, List.map_zipWith]
      rfl
    have hlen : p.length ≤ 1000 := by omega
    simp [posD, wishD, lzV, hlen]
    rw [hzip] at hj
    refine h2 _ _ (hf.trans (Pf.app _ _)) hf.len ?_ ?_
    · rintro i ⟨x, g, z1, z2, z3⟩
      have := (List.getElem?_eq_some_iff.mp z1).1
      exact hj i (by omega) ⟨x, g, z1, z2, z3⟩
    · simpa using hz2
end
end HR

set_option linter.all false
set_option maxRecDepth 100000
set_option maxHeartbeats 1000000
/-! HR, mirror 18: draws. -/
namespace HR
open PySem
theorem RowAt.cons {ns : List Int} {m : Mem} (h : RowAt ns m) : ∃ (i : Nat) (s t : Int) (x : Mem), m = .lst [.scr ns, .int i, .int s, .int t] :: x := by
  obtain ⟨i, s, t, e⟩ := h
  cases m with
  | nil => cases e
  | cons o x =>
    simp at e
    exact ⟨i, s, t, x, by rw [e]⟩
theorem gw_row {ns : List Int} {o : O} {x : Mem} (i : Nat) (s t : Int) : Gw ns (o :: x) (.lst [.scr ns, .int i, .int s, .int t] :: x) :=
  ⟨by simp, fun k h1 _ => by obtain ⟨k, rfl⟩ : ∃ j, k = j + 1 := ⟨k - 1, by omega⟩; simp, fun _ => ⟨i, s, t, rfl⟩⟩
theorem at4 (a b c d : D) : L2.atI [a, b, c, d] 0 = some a ∧ L2.atI [a, b, c, d] 1 = some b ∧ L2.atI [a, b, c, d] 2 = some c ∧ L2.atI [a, b, c, d] 3 = some d := ⟨rfl, rfl, rfl, rfl⟩
theorem binAdd {m : Mem} {i j : Int} : binV .Add (.int i) (.int j) m = .ok (.int (i + j)) m := rfl
theorem binSub {m : Mem} {i j : Int} : binV .Sub (.int i) (.int j) m = .ok (.int (i - j)) m := rfl
theorem binMulC {m : Mem} {i : Int} : binV .Mult (.int i) (.int 48271) m = .ok (.int (i * 48271)) m := by
  have : small 48271 = true := by simp [small]
  simp [binV, this]
theorem binMod {m : Mem} {i : Int} {k : Nat} (h : 1 ≤ k) : binV .Mod (.int i) (.int (k : Int)) m = .ok (.int (i % (k : Int))) m := by
  have : (0 : Int) < (k : Int) := by omega
  simp only [binV, this, if_true]
theorem binDiv {m : Mem} {i : Int} {k : Nat} (h : 1 ≤ k) (h2 : k ≤ 1000) : binV .FloorDiv (.int i) (.int (k : Int)) m = .ok (.int (i / (k : Int))) m := by
  have : (0 : Int) < (k : Int) ∧ (k : Int) < 2 ^ 64 := by omega
  simp only [binV, this, if_true, and_self]
theorem binModC {m : Mem} {i : Int} : binV .Mod (.int i) (.int 2147483647) m = .ok (.int (i % 2147483647)) m := rfl
theorem binDivC {m : Mem} {i : Int} : binV .FloorDiv (.int i) (.int 7) m = .ok (.int (i / 7)) m := rfl
theorem bltInt {m : Mem} {i : Int} : bltV .int [.int i] m = .ok (.int i) m := rfl
theorem bltLenS {m : Mem} {ns : List Int} : bltV .len [.scr ns] m = .ok (.int ns.length) m := rfl
theorem binPow18 : ∃ B : Int, ∀ m : Mem, binV .Pow (.int 10) (.int 18) m = .ok (.int B) m := ⟨_, fun m => by
  have : small 10 = true := by simp [small]
  simp [binV, this]
  rfl⟩
theorem cmpLtI {m : Mem} {i j : Int} : cmpV .Lt (.int i) (.int j) m = some (decide (i < j)) := rfl
theorem cmpGeI {m : Mem} {i j : Int} : cmpV .GtE (.int i) (.int j) m = some (decide (j ≤ i)) := rfl
theorem idxRow {x : Mem} {ns : List Int} {i s t : Int} {j : Int} : idxV (.ref 0) (.int j) (.lst [.scr ns, .int i, .int s, .int t] :: x) = L2.atI [.scr ns, .int i, .int s, .int t] j := rfl
theorem setRow {x : Mem} {a b c d v : D} : setSub (.ref 0) (.int 1) v (.lst [a, b, c, d] :: x) = some (.lst [a, v, c, d] :: x) ∧ setSub (.ref 0) (.int 2) v (.lst [a, b, c, d] :: x) = some (.lst [a, b, v, d] :: x) ∧ setSub (.ref 0) (.int 3) v (.lst [a, b, c, d] :: x) = some (.lst [a, b, c, v] :: x) := ⟨rfl, rfl, rfl⟩
theorem idxScr {m : Mem} {ns : List Int} {j : Int} : idxV (.scr ns) (.int j) m = (L2.atI ns j).map .int := rfl
theorem row0 {a b c d : D} : L2.atI [a, b, c, d] 0 = some a := rfl
theorem row1 {a b c d : D} : L2.atI [a, b, c, d] 1 = some b := rfl
theorem row2 {a b c d : D} : L2.atI [a, b, c, d] 2 = some c := rfl
theorem row3 {a b c d : D} : L2.atI [a, b, c, d] 3 = some d := rfl
section
variable {G : Prog}
theorem taken_w (h280 : G.fns 280 = some fn280) {ns : List Int} {n k : Nat} {m : Mem} {Q : D → Mem → Prop} (hr : RowAt ns m) (k1 : 1 ≤ k) (k2 : k ≤ 1000) (h : ∀ (v : Nat) m', v < k → Gw ns m m' → RowAt ns m' → Q (.int v) m') : (callN G (n + 1) 280 [.ref 0, .int k] m).wp Q := by
  refine wp_call h280 rfl ?_
  obtain ⟨i, s, t, x, rfl⟩ := hr.cons
  have hk : (0 : Int) < (k : Int) := by omega
  have hk2 : (k : Int) < 2 ^ 64 := by omega
  have fin : ∀ (z : Int) (i2 : Nat) (s2 t2 : Int), Q (.int (z % (k : Int))) (.lst [.scr ns, .int i2, .int s2, .int t2] :: x) := fun z i2 s2 t2 => by
    have e0 := Int.emod_nonneg z (by omega : (k : Int) ≠ 0)
    have e1 := Int.emod_lt_of_pos z hk
    obtain ⟨v, hv⟩ := Int.eq_ofNat_of_zero_le e0
    rw [hv] at e1 ⊢
    exact h v _ (by omega) (gw_row i2 s2 t2) ⟨i2, s2, t2, rfl⟩
  obtain ⟨B, hB⟩ := binPow18
  simp [fn280, startS, idxRow, setRow, row3, cmpGt, boolOf]
  by_cases ht : 0 < t
  · simp [ht, bltInt, binMod k1, binDiv k1 k2, idxRow, row3, setRow]
    exact fin t i s _
  · have ei : ((i : Int) + 1) = ((i + 1 : Nat) : Int) := by omega
    simp [ht, idxRow, row1, row0, binAdd, setRow, bltLenS, cmpGt, boolOf]
    by_cases hi : (ns.length : Int) < (i : Int) + 1
    · simp [hi, idxRow, row2, binMulC, binAdd, bltInt, binModC, setRow, binDivC, binMod k1]
      rw [ei]
      exact fin _ (i + 1) _ _
    · have hlt : i < ns.length := by omega
      have e10 := atI_nat hlt
      rw [List.getElem?_eq_getElem hlt] at e10
      generalize ns[i] = c at *
      simp [hi, idxRow, row0, row1, row2, binSub, idxScr, e10, binMulC, binAdd, bltInt, binModC, setRow, hB, cmpGeI, boolOf]
      by_cases hc : B ≤ c
      · simp [hc, binDiv k1 k2, binMod k1, setRow, bltInt]
        rw [ei]
        exact fin _ (i + 1) _ _
      · simp [hc, binMod k1, bltInt]
        rw [ei]
        exact fin _ (i + 1) _ _
end
end HR

set_option linter.all false
set_option maxRecDepth 100000
set_option maxHeartbeats 1000000
/-! HR, mirror 19: the law's own drags and limits. -/
namespace HR
open PySem
structure LenAt (m : Mem) (k n : Nat) (T : Ents) (rf : Nat → Nat) : Prop where
  k1 : 1 ≤ k
  out : m[k]? = some (.lst ((List.range n).map fun i => .ref (rf i)))
  pos : ∀ i < n, 1 ≤ rf i
  inn : ∀ i < n, m[rf i]? = some (.lst ((List.range n).map fun j => optD (look T (i, j))))
theorem LenAt.grow {Rl : Mem → Mem → Prop} (g : Grow Rl) {m m' : Mem} {k n : Nat} {T : Ents} {rf : Nat → Nat} (l : LenAt m k n T rf) (h : Rl m m') : LenAt m' k n T rf :=
  ⟨l.k1, g.get h l.k1 l.out, l.pos, fun i hi => g.get h (l.pos i hi) (l.inn i hi)⟩
theorem LenAt.get1 {m : Mem} {k n i : Nat} {T : Ents} {rf : Nat → Nat} (l : LenAt m k n T rf) (hi : i < n) : idxV (.ref k) (.int i) m = some (.ref (rf i)) := by
  simp only [idxV, listAt, l.out]
  rw [atI_nat (by simpa using hi)]
  simp [List.getElem?_range hi]
theorem LenAt.get2 {m : Mem} {k n i j : Nat} {T : Ents} {rf : Nat → Nat} (l : LenAt m k n T rf) (hi : i < n) (hj : j < n) : idxV (.ref (rf i)) (.int j) m = some (optD (look T (i, j))) := by
  simp only [idxV, listAt, l.inn i hi]
  rw [atI_nat (by simpa using hj)]
  simp [List.getElem?_range hj]
theorem idxPos {m : Mem} {p : List Int} {i : Nat} (h : i < p.length) : idxV (posD p) (.int i) m = some (.int (atP p i)) := atI_pos h
theorem cmpIs' {m : Mem} {x : D} : cmpV .Is x .non m = some (isNon x) := rfl
theorem cmpIsNot' {m : Mem} {x : D} : cmpV .IsNot x .non m = some (!isNon x) := rfl
section
variable {G : Prog}
theorem lawDrag_w (h281 : G.fns 281 = some fn281) {n k b : Nat} {T : Ents} {rf : Nat → Nat} {p : List Int} {v : Int} {m : Mem} {Q : D → Mem → Prop} (l : LenAt m k p.length T rf) (hp : p.length ≤ 1000) (hb : b < p.length)
    (h : ∀ m', Pf m m' → Q (posD (dragP T p b v)) m') : (callN G (n + 1) 281 [.ref k, posD p, .int b, .int v] m).wp Q := by
  refine wp_call h281 rfl ?_
  have hlim : lim62 (p.length : Int) = true := by simp [lim62]; omega
  simp [fn281, startS]
  refine w_forS ?_
  simp [posD, bltV, mkIt, hlim, endIt]
  refine ws_for (fun i r m1 => m1 = m ++ [.lst (((dragP T p b v).take i).map .int)] ∧ ∃ a5 a6, r = [some (.ref k), some (posD p), some (.int b), some (.int v), some (.ref m.length), a5, a6]) ((List.range p.length).map fun (j : Nat) => D.int (0 + j)) (fun _ _ _ _ => nth_rng)
    ⟨by simp, none, none, rfl⟩ (fu_of (by simp; omega)) ?_ ?_
  · rintro i r m1 x hx ⟨rfl, a5, a6, rfl⟩
    simp only [List.getElem?_map, Option.map_eq_some_iff] at hx
    obtain ⟨j, hj, rfl⟩ := hx
    have hi : i < p.length := by have := (List.getElem?_eq_some_iff.mp hj).1; simpa using this
    rw [List.getElem?_range hi] at hj
    cases hj
    have l1 := l.grow pfG (Pf.app m [.lst (((dragP T p b v).take i).map .int)])
    have e0 : (m ++ [O.lst (((dragP T p b v).take i).map .int)])[m.length]? = some (.lst (((dragP T p b v).take i).map .int)) := get0
    have hb2 : (((dragP T p b v).take i).map D.int).length < big := by
      have hbig : big = 1000000 := rfl
      have := dragP_len T p b v
      simp; omega
    have e2 : (dragP T p b v)[i]? = some (atP (dragP T p b v) i) := by
      have : i < (dragP T p b v).length := by rw [dragP_len]; exact hi
      simp [atP, List.getD, List.getElem?_eq_getElem this]
    have e3 : (m ++ [O.lst (((dragP T p b v).take i).map .int)]).set m.length (.lst (((dragP T p b v).take i).map .int ++ [.int (atP (dragP T p b v) i)])) = m ++ [.lst (((dragP T p b v).take (i + 1)).map .int)] := by
      rw [take_snoc e2]
      simp
    rw [dragP_at T b v hi] at e2 e3
    generalize hacc : ((dragP T p b v).take i).map D.int = acc at *
    refine ⟨_, by simp; rfl, ?_⟩
    simp [l1.get1 hb, l1.get2 hb hi, idxPos hi, cmpIs', boolOf, rcv, listAt, e0]
    cases hl : look T (b, i) with
    | none =>
      rw [hl] at e3
      simp only at e3
      simp [optD, isNon]
      simp only [bmV, e0, hb2, if_true, wpOk]
      rw [← List.map_take]
      exact e3
    | some d =>
      rw [hl] at e3
      simp only at e3
      simp [optD, isNon, binSub, bltV]
      simp only [bmV, e0, hb2, if_true, wpOk]
      rw [← List.map_take]
      exact e3
  · rintro r m1 ⟨rfl, a5, a6, rfl⟩
    have hlen : ((List.range p.length).map fun (j : Nat) => D.int (0 + j)).length = (dragP T p b v).length := by simp [dragP_len]
    have e0 : (m ++ [O.lst (((dragP T p b v)).map .int)])[m.length]? = some (.lst (((dragP T p b v)).map .int)) := get0
    simp only [hlen, List.take_length]
    simp [bltV, e0]
    exact h _ (Pf.app m _)
end
end HR

set_option linter.all false
set_option maxRecDepth 100000
set_option maxHeartbeats 1000000
/-! HR, mirror 20: the law's own limits. -/
namespace HR
open PySem
theorem idxWish {m : Mem} {p : List (Option Int)} {i : Nat} {o : Option Int} (h : p[i]? = some o) : idxV (wishD p) (.int i) m = some (optD o) := by
  have hl := (List.getElem?_eq_some_iff.mp h).1
  show L2.atI (p.map optD) i = _
  rw [atI_nat (by simpa using hl)]
  simp [List.getElem?_map, h]
theorem idxLst {m : Mem} {k : Nat} {xs : List D} {i : Nat} (e : m[k]? = some (.lst xs)) (h : i < xs.length) : idxV (.ref k) (.int i) m = xs[i]? := by
  simp only [idxV, listAt, e]
  exact atI_nat h
section
variable {G : Prog}
theorem lawGreat_w (h282 : G.fns 282 = some fn282) {n k : Nat} {T : Ents} {rf : Nat → Nat} {ls : List (Option Int)} {m : Mem} {Q : D → Mem → Prop} (l : LenAt m k ls.length T rf) (hl : ls.length ≤ 1000)
    (h : ∀ m', Pf m m' → Q (wishD (grT T ls ls.length)) m') : (callN G (n + 1) 282 [.ref k, wishD ls] m).wp Q := by
  refine wp_call h282 rfl ?_
  have hlim : lim62 (ls.length : Int) = true := by simp [lim62]; omega
  have hbig : big = 1000000 := rfl
  simp [fn282, startS]
  refine w_forS ?_
  simp [wishD, bltV, mkIt, hlim, endIt]
  refine ws_for (fun i r m1 => (∃ x, m1 = m ++ .lst ((grT T ls i).map optD) :: x) ∧ ∃ a3 a4 a5 a6, r = [some (.ref k), some (wishD ls), some (.ref m.length), a3, a4, a5, a6]) ((List.range ls.length).map fun (j : Nat) => D.int (0 + j)) (fun _ _ _ _ => nth_rng) ⟨⟨[], rfl⟩, none, none, none, none, rfl⟩
    (fu_of (by simp; omega)) ?_ ?_
  · rintro i r m1 x hx ⟨⟨y, rfl⟩, a3, a4, a5, a6, rfl⟩
    simp only [List.getElem?_map, Option.map_eq_some_iff] at hx
    obtain ⟨j, hj, rfl⟩ := hx
    have hi : i < ls.length := by have := (List.getElem?_eq_some_iff.mp hj).1; simpa using this
    rw [List.getElem?_range hi] at hj
    cases hj
    refine ⟨_, by simp; rfl, ?_⟩
    have tt := l.grow pfG (Pf.app m (.lst ((grT T ls i).map optD) :: y))
    have eg : (m ++ .lst ((grT T ls i).map optD) :: y)[m.length]? = some (.lst ((grT T ls i).map optD)) := get0
    have hgl := grT_len T ls i
    have hml : m.length < (m ++ .lst ((grT T ls i).map optD) :: y).length := (List.getElem?_eq_some_iff.mp eg).1
    have hset : ∀ z w, (m ++ .lst ((grT T ls i).map optD) :: y ++ w).set m.length z = m ++ z :: (y ++ w) := by intro z w; simp
    generalize hm1 : m ++ .lst ((grT T ls i).map optD) :: y = m1 at *
    simp only [w_consS, w_asg]
    refine w_lc ?_
    simp [wishD, bltV, mkIt, hlim, endIt]
    refine lcG pfG ((List.range ls.length).map fun (j : Nat) => D.int (0 + j)) (fun q acc => acc = (List.range q).map fun j => optD (look T (i, j))) (by omega) (by simpa using hl) (fun _ _ _ => nth_rng) rfl ?_ ?_
    · rintro q x acc m2 hx rfl hm2
      simp only [List.getElem?_map, Option.map_eq_some_iff] at hx
      obtain ⟨q2, hq2, rfl⟩ := hx
      have hq : q < ls.length := by have := (List.getElem?_eq_some_iff.mp hq2).1; simpa using this
      rw [List.getElem?_range hq] at hq2
      cases hq2
      have t2 := tt.grow pfG hm2
      refine w_turnL (by simp [wipeS]; rfl) ?_
      simp [condB, t2.get1 hi, t2.get2 hi hq]
      exact ⟨Pf.refl _, by simp [List.range_succ]⟩
    · rintro acc m2 rfl hm2 e2
      simp only [List.length_map, List.length_range] at e2
      with_reducible refine R.wp.mono (Q := fun d m3 => d = .ref m2.length ∧ Pf m2 m3 ∧ m3[m2.length]? = some (.lst ((gsums T ls i ls.length).map .int))) (w_lc ?_) ?_
      rotate_left
      · rintro d m3 ⟨rfl, hm3, e3⟩
        have eg3 := (hm2.trans hm3).get eg
        obtain ⟨w, hw⟩ := hm2.trans hm3
        have hb : ((grT T ls i).map optD).length < big := by simp; omega
        have e4 := (Pf.app m3 [.lst []]).get e3
        have e5 : (m3 ++ [O.lst []])[m3.length]? = some (.lst []) := get0
        have e6 := eq_emp e4 e5
        have eg4 := (Pf.app m3 [.lst []]).get eg3
        simp [rcv, listAt, eg3]
        refine osat_of (a := !(gsums T ls i ls.length).isEmpty) (by simp only [cmpV]; rw [e6]; rfl) ?_
        cases hg : gsums T ls i ls.length with
        | nil =>
          simp [boolOf]
          simp only [bmV, eg4, hb, if_true, wpOk]
          refine ⟨y ++ w ++ [.lst []], ?_⟩
          rw [hw, List.append_assoc, hset, grT_succ, hg]
          simp [minO, optD]
        | cons v vs =>
          rw [hg] at e4
          have e7 := intsOf_map (v :: vs)
          simp [boolOf, bltV, listAt, e4, e7]
          simp at e7
          simp [e7]
          simp only [bmV, eg4, hb, if_true, wpOk]
          refine ⟨y ++ w ++ [.lst []], ?_⟩
          rw [hw, List.append_assoc, hset, grT_succ, hg]
          simp [minO, optD]
      simp [bltV, mkIt, hlim, endIt]
      refine lcG pfG ((List.range ls.length).map fun (j : Nat) => D.int (0 + j)) (fun q acc => acc = (gsums T ls i q).map .int) (by have := hm2.len; omega) (by simpa using hl) (fun _ _ _ => nth_rng) rfl ?_ ?_
      · rintro q x acc m3 hx rfl hm3
        simp only [List.getElem?_map, Option.map_eq_some_iff] at hx
        obtain ⟨q2, hq2, rfl⟩ := hx
        have hq : q < ls.length := by have := (List.getElem?_eq_some_iff.mp hq2).1; simpa using this
        rw [List.getElem?_range hq] at hq2
        cases hq2
        have hlq : ls[q]? = some ls[q] := List.getElem?_eq_getElem hq
        generalize ls[q] = lq at *
        have e3 := hm3.get e2
        have g1 := idxWish (m := m3) hlq
        have g2 := idxLst (i := q) e3 (by simpa using hq)
        rw [List.getElem?_map, List.getElem?_range hq, Option.map_some] at g2
        have hgs := gsums_succ T hlq (i := i)
        refine w_turnL (by simp [wipeS]; rfl) ?_
        unfold wishD at g1
        cases lq with
        | none =>
          have e3 : gsum T i q none = none := rfl
          rw [e3] at hgs
          simp [g1, optD, cmpIsNot', isNon, boolOf, condB, hgs]
          exact Pf.refl _
        | some a =>
          cases hlk : look T (i, q) with
          | none =>
            have e3 : gsum T i q (some a) = none := by simp [gsum, hlk]
            rw [e3] at hgs
            rw [hlk] at g2
            simp [g1, g2, optD, cmpIsNot', isNon, boolOf, condB, hgs]
            exact Pf.refl _
          | some d =>
            have e3 : gsum T i q (some a) = some (a + d) := by simp [gsum, hlk]
            rw [e3] at hgs
            rw [hlk] at g2
            simp [g1, g2, optD, cmpIsNot', isNon, boolOf, condB, hgs, binAdd]
            exact Pf.refl _
      · rintro acc m3 rfl hm3 e3
        simp only [List.length_map, List.length_range] at e3
        exact ⟨hm3, by simpa using e3⟩
  · rintro r m1 ⟨⟨y, rfl⟩, a3, a4, a5, a6, rfl⟩
    simp [bltV]
    exact h _ (Pf.app m _)
end
end HR

set_option linter.all false
set_option maxRecDepth 100000
set_option maxHeartbeats 1000000
/-! HR, mirror 21: the mathematics of drags. -/
namespace HR
open PySem
structure PosIn (F : Fleet) (p : List Int) (lo hi : Int) : Prop where
  len : p.length = F.n
  lo : ∀ i < F.n, lo ≤ atP p i
  hi : ∀ i < F.n, atP p i ≤ hi
  val : Valid F (atP p)
theorem mem_atP {p : List Int} {x : Int} (h : x ∈ p) : ∃ i, i < p.length ∧ atP p i = x := by
  obtain ⟨i, hi, e⟩ := List.getElem_of_mem h
  exact ⟨i, hi, by simp [atP, List.getD, List.getElem?_eq_getElem hi, e]⟩
theorem PosIn.ok {F : Fleet} {p : List Int} {lo hi : Int} (h : PosIn F p lo hi) (h1 : -9999 ≤ lo) (h2 : hi ≤ 9999) : PosOk F p :=
  ⟨h.len, fun x hx => by obtain ⟨i, hi, rfl⟩ := mem_atP hx; have := h.lo i (by rw [← h.len]; exact hi); omega, fun x hx => by obtain ⟨i, hi, rfl⟩ := mem_atP hx; have := h.hi i (by rw [← h.len]; exact hi); omega, h.val⟩
section
variable {F : Fleet} {p : List Int} {b : Nat} {v : Int}
theorem drag_ge (T : Ents) {i : Nat} (hi : i < p.length) : atP p i ≤ atP (dragP T p b v) i := by
  rw [dragP_at T b v hi]
  cases look T (b, i) with
  | none => exact Int.le_refl _
  | some l => simp only; split <;> omega
theorem drag_geL {T : Ents} {i : Nat} {l : Int} (hi : i < p.length) (h : look T (b, i) = some l) : v - l ≤ atP (dragP T p b v) i := by
  rw [dragP_at T b v hi, h]
  simp only
  split <;> omega
theorem drag_from {T : Ents} {i : Nat} (hi : i < p.length) : atP (dragP T p b v) i = atP p i ∨ ∃ l, look T (b, i) = some l ∧ atP (dragP T p b v) i = v - l := by
  rw [dragP_at T b v hi]
  cases h : look T (b, i) with
  | none => exact .inl rfl
  | some l =>
    simp only
    split
    · exact .inr ⟨l, rfl, rfl⟩
    · exact .inl rfl
theorem drag_valid (ok : F.Ok) (hl : p.length = F.n) (hv : Valid F (atP p)) : Valid F (atP (dragP (chainT F) p b v)) := fun x hx => by
  have okx := ok.rp x hx
  have hf : x.1 < p.length := by rw [hl]; exact okx.f
  have hr : x.2.1 < p.length := by rw [hl]; exact okx.r
  rcases drag_from (b := b) (v := v) (T := chainT F) hf with e | ⟨d, h1, e⟩
  · have := drag_ge (b := b) (v := v) (chainT F) hr
    have := hv x hx
    omega
  · obtain ⟨l, h2, h3⟩ := chain_rope hx
    obtain ⟨c, h4, h5⟩ := chain_tri ok hv h1 h2
    have := drag_geL (v := v) hr h4
    omega
theorem drag_hi (ok : F.Ok) (hl : p.length = F.n) (hv : Valid F (atP p)) (hb : atP p b ≤ v) {i : Nat} (hi : i < p.length) : atP (dragP (chainT F) p b v) i ≤ atP p i + (v - atP p b) := by
  rcases drag_from (b := b) (v := v) (T := chainT F) hi with e | ⟨d, h1, e⟩
  · omega
  · have := chain_sound ok hv b i d h1
    omega
theorem drag_in (ok : F.Ok) {lo hi : Int} (h : PosIn F p lo hi) (hb : atP p b ≤ v) : PosIn F (dragP (chainT F) p b v) lo (hi + (v - atP p b)) :=
  ⟨by rw [dragP_len]; exact h.len, fun i hi => by have := drag_ge (b := b) (v := v) (chainT F) (i := i) (by rw [h.len]; exact hi); have := h.lo i hi; omega,
    fun i hi => by have := drag_hi ok h.len h.val hb (i := i) (by rw [h.len]; exact hi); have := h.hi i hi; omega, drag_valid ok h.len h.val⟩
/-- the law's least positions: each wish by itself, from the start -/
def dueAt (T : Ents) (p : List Int) (ws : List (Option Int)) : Nat → List Int
  | 0 => p
  | k + 1 => match ws[k]? with
    | some (some w) => if atP p k < w then (List.zipWith (fun (a b : Int) => if b > a then b else a) (dueAt T p ws k) (dragP T p k w)) else dueAt T p ws k
    | _ => dueAt T p ws k
theorem dueAt_len (T : Ents) (p : List Int) (ws : List (Option Int)) : ∀ k, (dueAt T p ws k).length = p.length
  | 0 => rfl
  | k + 1 => by
    have ih := dueAt_len T p ws k
    unfold dueAt
    split
    · split
      · simp [ih, dragP_len]
      · exact ih
    · exact ih
theorem atP_ext {p q : List Int} (h : p.length = q.length) (e : ∀ i < p.length, atP p i = atP q i) : p = q := by
  apply List.ext_getElem h
  intro i h1 h2
  have := e i h1
  simpa [atP, List.getD, List.getElem?_eq_getElem h1, List.getElem?_eq_getElem h2] using this
theorem atP_zip {f : Int → Int → Int} {p q : List Int} {i : Nat} (h1 : i < p.length) (h2 : i < q.length) : atP (List.zipWith f p q) i = f (atP p i) (atP q i) := by
  simp [atP, List.getD, List.getElem?_zipWith, List.getElem?_eq_getElem h1, List.getElem?_eq_getElem h2]
/-- one after another leads where each by itself does -/
theorem lp_due (ok : F.Ok) (hl : p.length = F.n) (hv : Valid F (atP p)) (ws : List (Option Int)) : ∀ k, k ≤ F.n → lpAt (chainT F) p ws k = dueAt (chainT F) p ws k ∧ Valid F (atP (lpAt (chainT F) p ws k)) ∧ (∀ i < F.n, atP p i ≤ atP (lpAt (chainT F) p ws k) i)
  | 0, _ => ⟨rfl, hv, fun _ _ => Int.le_refl _⟩
  | k + 1, hk => by
    obtain ⟨e, v1, ge⟩ := lp_due ok hl hv ws k (by omega)
    have hlen := lpAt_len (chainT F) p ws k
    unfold lpAt dueAt
    cases hw : ws[k]? with
    | none => exact ⟨e, v1, ge⟩
    | some o =>
      cases o with
      | none => exact ⟨e, v1, ge⟩
      | some w =>
        simp only
        have gk := ge k (by omega)
        have hd0 := chain_diag ok hv (i := k) (by omega)
        have main : ∀ i < F.n, atP (dragP (chainT F) (lpAt (chainT F) p ws k) k w) i = if atP (dragP (chainT F) p k w) i > atP (lpAt (chainT F) p ws k) i then atP (dragP (chainT F) p k w) i else atP (lpAt (chainT F) p ws k) i := by
          intro i hi
          have gi := ge i hi
          rw [dragP_at _ _ _ (by omega : i < p.length), dragP_at _ _ _ (by omega : i < (lpAt (chainT F) p ws k).length)]
          cases hc : look (chainT F) (k, i) with
          | none => simp only; repeat (first | omega | split)
          | some l => simp only; repeat (first | omega | split)
        by_cases h1 : atP (lpAt (chainT F) p ws k) k < w
        · have h2 : atP p k < w := by omega
          simp only [h1, h2, if_true]
          refine ⟨?_, drag_valid ok (by omega) v1, fun i hi => Int.le_trans (ge i hi) (drag_ge _ (by omega))⟩
          apply atP_ext
          · simp [dragP_len, dueAt_len, hlen]
          · intro i hi
            rw [dragP_len] at hi
            rw [atP_zip (by rw [dueAt_len]; omega) (by rw [dragP_len]; omega), ← e]
            exact main i (by omega)
        · simp only [h1, if_false]
          refine ⟨?_, v1, ge⟩
          by_cases h2 : atP p k < w
          · simp only [h2, if_true]
            apply atP_ext
            · simp [dragP_len, dueAt_len, hlen]
            · intro i hi
              rw [atP_zip (by rw [dueAt_len]; omega) (by rw [dragP_len]; omega), ← e]
              have : ¬ atP (dragP (chainT F) p k w) i > atP (lpAt (chainT F) p ws k) i := by
                rcases drag_from (b := k) (v := w) (T := chainT F) (by omega : i < p.length) with z | ⟨d, z1, z2⟩
                · have := ge i (by omega); omega
                · have := chain_sound ok v1 k i d z1
                  omega
              simp [this]
          · simp only [h2, if_false]
            exact e
end
end HR

set_option linter.all false
set_option maxRecDepth 100000
set_option maxHeartbeats 1000000
/-! HR, mirror 22: the mathematics of settling. -/
namespace HR
open PySem
theorem fmax_ge : ∀ (l : List Int) (a : Int), a ≤ l.foldl max a
  | [], a => Int.le_refl _
  | x :: l, a => Int.le_trans (Int.le_max_left a x) (fmax_ge l (max a x))
theorem fmax_mem : ∀ (l : List Int) (a x : Int), x ∈ l → x ≤ l.foldl max a
  | y :: l, a, x, h => by
    rcases List.mem_cons.mp h with e | e
    · subst e
      exact Int.le_trans (Int.le_max_right a x) (fmax_ge l (max a x))
    · exact fmax_mem l (max a y) x e
theorem fmax_of : ∀ (l : List Int) (a : Int), l.foldl max a = a ∨ l.foldl max a ∈ l
  | [], a => .inl rfl
  | x :: l, a => by
    rcases fmax_of l (max a x) with e | e
    · rw [List.foldl_cons, e]
      rcases Int.le_total a x with z | z
      · exact .inr (by rw [Int.max_eq_right z]; exact List.mem_cons_self)
      · exact .inl (Int.max_eq_left z)
    · exact .inr (List.mem_cons_of_mem _ e)
/-- the least valid positions above some -/
def upV (T : Ents) (n : Nat) (w : Nat → Int) (i : Nat) : Int := ((List.range n).filterMap fun j => (look T (j, i)).map fun d => w j - d).foldl max (w i)
theorem up_ge (T : Ents) (n : Nat) (w : Nat → Int) (i : Nat) : w i ≤ upV T n w i := fmax_ge _ _
theorem up_geL {T : Ents} {n : Nat} {w : Nat → Int} {i j : Nat} {d : Int} (hj : j < n) (h : look T (j, i) = some d) : w j - d ≤ upV T n w i :=
  fmax_mem _ _ _ (List.mem_filterMap.mpr ⟨j, List.mem_range.mpr hj, by simp [h]⟩)
theorem up_from (T : Ents) (n : Nat) (w : Nat → Int) (i : Nat) : upV T n w i = w i ∨ ∃ j d, j < n ∧ look T (j, i) = some d ∧ upV T n w i = w j - d := by
  rcases fmax_of ((List.range n).filterMap fun j => (look T (j, i)).map fun d => w j - d) (w i) with e | e
  · exact .inl e
  · obtain ⟨j, hj, h⟩ := List.mem_filterMap.mp e
    obtain ⟨d, hd, h2⟩ := Option.map_eq_some_iff.mp h
    exact .inr ⟨j, d, List.mem_range.mp hj, hd, h2.symm⟩
section
variable {F : Fleet}
theorem up_valid (ok : F.Ok) {π : Nat → Int} (v : Valid F π) (w : Nat → Int) : Valid F (upV (chainT F) F.n w) := fun x hx => by
  have okx := ok.rp x hx
  obtain ⟨l, h2, h3⟩ := chain_rope hx
  rcases up_from (chainT F) F.n w x.1 with e | ⟨j, d, hj, hd, e⟩
  · have := up_geL (w := w) okx.f h2
    omega
  · obtain ⟨c, h4, h5⟩ := chain_tri ok v hd h2
    have := up_geL (w := w) hj h4
    omega
theorem up_least (ok : F.Ok) {q w : Nat → Int} (v : Valid F q) (ge : ∀ i < F.n, w i ≤ q i) {i : Nat} (hi : i < F.n) : upV (chainT F) F.n w i ≤ q i := by
  rcases up_from (chainT F) F.n w i with e | ⟨j, d, hj, hd, e⟩
  · have := ge i hi; omega
  · have := ge j hj
    have := chain_sound ok v j i d hd
    omega
/-- one rope pulls -/
def relax (q : List Int) (x : Rope) : List Int := q.set x.2.1 (if atP q x.1 - x.2.2 > atP q x.2.1 then atP q x.1 - x.2.2 else atP q x.2.1)
def passT (rs : List Rope) (q : List Int) : List Int := rs.foldl relax q
theorem relax_len (q : List Int) (x : Rope) : (relax q x).length = q.length := by simp [relax]
theorem pass_len : ∀ (rs : List Rope) (q : List Int), (passT rs q).length = q.length
  | [], q => rfl
  | x :: rs, q => by
    have := pass_len rs (relax q x)
    rw [relax_len] at this
    exact this
theorem atP_set {q : List Int} {i j : Nat} {v : Int} (h : i < q.length) : atP (q.set i v) j = if j = i then v else atP q j := by
  simp only [atP, List.getD, List.getElem?_set]
  by_cases e : j = i
  · subst e; simp [h]
  · have : ¬ i = j := fun z => e z.symm
    simp [e, this]
theorem relax_at {q : List Int} {x : Rope} (h : x.2.1 < q.length) (j : Nat) : atP (relax q x) j = if j = x.2.1 then (if atP q x.1 - x.2.2 > atP q x.2.1 then atP q x.1 - x.2.2 else atP q x.2.1) else atP q j := atP_set h
theorem relax_ge {q : List Int} {x : Rope} (h : x.2.1 < q.length) (j : Nat) : atP q j ≤ atP (relax q x) j := by
  rw [relax_at h]
  split
  · rename_i e; subst e; split <;> omega
  · exact Int.le_refl _
theorem pass_ge : ∀ (rs : List Rope) (q : List Int), (∀ x ∈ rs, x.2.1 < q.length) → ∀ j, atP q j ≤ atP (passT rs q) j
  | [], q, _, j => Int.le_refl _
  | x :: rs, q, h, j => Int.le_trans (relax_ge (h x List.mem_cons_self) j) (pass_ge rs (relax q x) (fun y hy => by rw [relax_len]; exact h y (List.mem_cons_of_mem _ hy)) j)
theorem pass_rope : ∀ (rs : List Rope) (q : List Int), (∀ x ∈ rs, x.2.1 < q.length) → ∀ x ∈ rs, atP q x.1 - x.2.2 ≤ atP (passT rs q) x.2.1
  | y :: rs, q, h, x, hx => by
    have h2 : ∀ x ∈ rs, x.2.1 < (relax q y).length := fun z hz => by rw [relax_len]; exact h z (List.mem_cons_of_mem _ hz)
    rcases List.mem_cons.mp hx with e | e
    · subst e
      refine Int.le_trans ?_ (pass_ge rs (relax q x) h2 x.2.1)
      rw [relax_at (h x List.mem_cons_self)]
      simp only [if_true]
      split <;> omega
    · have := pass_rope rs (relax q y) h2 x e
      have := relax_ge (h y List.mem_cons_self) x.1
      show _ ≤ atP (passT rs (relax q y)) x.2.1
      omega
theorem pass_le {L : Nat → Int} : ∀ (rs : List Rope) (q : List Int), (∀ x ∈ rs, x.2.1 < q.length ∧ L x.1 - L x.2.1 ≤ x.2.2) → (∀ j, atP q j ≤ L j ∨ q.length ≤ j) → (∀ x ∈ rs, x.1 < q.length) → ∀ j, atP (passT rs q) j ≤ L j ∨ q.length ≤ j
  | [], q, _, h, _, j => h j
  | x :: rs, q, hv, h, hf, j => by
    have hx := hv x List.mem_cons_self
    have hx1 := hf x List.mem_cons_self
    have := pass_le rs (relax q x) (fun y hy => by rw [relax_len]; exact hv y (List.mem_cons_of_mem _ hy)) (fun j => by
      rw [relax_len, relax_at hx.1]
      rcases h j with z | z
      · refine .inl ?_
        split
        · rename_i e
          subst e
          have : atP q x.1 ≤ L x.1 := by rcases h x.1 with z2 | z2 <;> omega
          split <;> omega
        · exact z
      · exact .inr z) (fun y hy => by rw [relax_len]; exact hf y (List.mem_cons_of_mem _ hy)) j
    rw [relax_len] at this
    exact this
end
end HR

set_option linter.all false
set_option maxRecDepth 100000
set_option maxHeartbeats 1000000
/-! HR, mirror 23: settling ends. -/
namespace HR
open PySem
theorem count_le {l : List Nat} {p q : Nat → Bool} (h : ∀ x ∈ l, p x = true → q x = true) : l.countP p ≤ l.countP q := by
  induction l with
  | nil => simp
  | cons x l ih =>
    have ih := ih fun y hy => h y (List.mem_cons_of_mem _ hy)
    have hx := h x List.mem_cons_self
    rw [List.countP_cons, List.countP_cons]
    cases hp : p x
    · simp; omega
    · simp [hx hp]; omega
theorem count_lt {l : List Nat} {p q : Nat → Bool} (h : ∀ x ∈ l, p x = true → q x = true) (e : ∃ x ∈ l, q x = true ∧ p x = false) : l.countP p < l.countP q := by
  induction l with
  | nil => obtain ⟨x, hx, _⟩ := e; cases hx
  | cons x l ih =>
    have h2 : ∀ y ∈ l, p y = true → q y = true := fun y hy => h y (List.mem_cons_of_mem _ hy)
    have hx := h x List.mem_cons_self
    obtain ⟨y, hy, h3, h4⟩ := e
    rw [List.countP_cons, List.countP_cons]
    rcases List.mem_cons.mp hy with z | z
    · subst z
      have := count_le h2
      simp [h3, h4]; omega
    · have := ih h2 ⟨y, z, h3, h4⟩
      cases hp : p x
      · simp; omega
      · simp [hx hp]; omega
def passesT (rs : List Rope) : Nat → List Int → List Int
  | 0, q => q
  | k + 1, q => passesT rs k (passT rs q)
theorem passes_len (rs : List Rope) : ∀ (k : Nat) (q : List Int), (passesT rs k q).length = q.length
  | 0, _ => rfl
  | k + 1, q => by rw [passesT, passes_len rs k, pass_len]
theorem passes_succ (rs : List Rope) : ∀ (k : Nat) (q : List Int), passesT rs (k + 1) q = passT rs (passesT rs k q)
  | 0, _ => rfl
  | k + 1, q => by rw [passesT, passes_succ rs k]; rfl
section
variable {F : Fleet}
structure Mid (F : Fleet) (w : Nat → Int) (q : List Int) : Prop where
  len : q.length = F.n
  ge : ∀ i < F.n, w i ≤ atP q i
  le : ∀ i < F.n, atP q i ≤ upV (chainT F) F.n w i
theorem mid_pass (ok : F.Ok) {π : Nat → Int} (v : Valid F π) {w : Nat → Int} {q : List Int} (m : Mid F w q) : Mid F w (passT F.rs q) := by
  have hr : ∀ x ∈ F.rs, x.2.1 < q.length := fun x hx => by rw [m.len]; exact (ok.rp x hx).r
  refine ⟨by rw [pass_len]; exact m.len, fun i hi => Int.le_trans (m.ge i hi) (pass_ge F.rs q hr i), fun i hi => ?_⟩
  have := pass_le (L := upV (chainT F) F.n w) F.rs q (fun x hx => ⟨hr x hx, up_valid ok v w x hx⟩) (fun j => by
    by_cases hj : j < F.n
    · exact .inl (m.le j hj)
    · exact .inr (by rw [m.len]; omega)) (fun x hx => by rw [m.len]; exact (ok.rp x hx).f) i
  rcases this with z | z
  · exact z
  · rw [m.len] at z; omega
def lowC (F : Fleet) (w : Nat → Int) (q : List Int) : Nat := (List.range F.n).countP fun i => decide (atP q i < upV (chainT F) F.n w i)
theorem mid_step (ok : F.Ok) {π : Nat → Int} (v : Valid F π) {w : Nat → Int} {q : List Int} (m : Mid F w q) (h : ∃ i, i < F.n ∧ atP q i < upV (chainT F) F.n w i) : lowC F w (passT F.rs q) < lowC F w q := by
  have hr : ∀ x ∈ F.rs, x.2.1 < q.length := fun x hx => by rw [m.len]; exact (ok.rp x hx).r
  have ge := pass_ge F.rs q hr
  have key : ∃ r, r < F.n ∧ atP q r < upV (chainT F) F.n w r ∧ ¬ atP (passT F.rs q) r < upV (chainT F) F.n w r := by
    refine Classical.byContradiction fun hne => ?_
    have hne : ∀ r, r < F.n → atP q r < upV (chainT F) F.n w r → atP (passT F.rs q) r < upV (chainT F) F.n w r := fun r h1 h2 => Classical.byContradiction fun h3 => hne ⟨r, h1, h2, h3⟩
    obtain ⟨i, hi, hlt⟩ := h
    have v2 : Valid F (fun i => if atP q i < upV (chainT F) F.n w i then upV (chainT F) F.n w i - 1 else upV (chainT F) F.n w i) := fun x hx => by
      have okx := ok.rp x hx
      have e1 := up_valid ok v w x hx
      have e2 := pass_rope F.rs q hr x hx
      have e3 := m.le x.1 okx.f
      have e4 := hne x.2.1 okx.r
      simp only
      repeat (first | omega | split)
    have := up_least ok v2 (w := w) (fun j hj => by
      have := m.ge j hj
      have := up_ge (chainT F) F.n w j
      split <;> omega) hi
    simp only [hlt, if_true] at this
    omega
  obtain ⟨r, h1, h2, h3⟩ := key
  refine count_lt (fun i _ h => ?_) ⟨r, List.mem_range.mpr h1, by simpa using h2, by simpa using h3⟩
  have := ge i
  simp only [decide_eq_true_eq] at h ⊢
  omega
theorem mid_done (ok : F.Ok) {π : Nat → Int} (v : Valid F π) {w : Nat → Int} : ∀ (k : Nat) (q : List Int), Mid F w q → lowC F w q ≤ k → Mid F w (passesT F.rs k q) ∧ ∀ i < F.n, atP (passesT F.rs k q) i = upV (chainT F) F.n w i
  | 0, q, m, h => by
    refine ⟨m, fun i hi => ?_⟩
    have h0 : lowC F w q = 0 := by omega
    unfold lowC at h0
    rw [List.countP_eq_zero] at h0
    have := h0 i (List.mem_range.mpr hi)
    have := m.le i hi
    simp at *
    show atP q i = _
    omega
  | k + 1, q, m, h => by
    have m2 := mid_pass ok v m
    refine mid_done ok v k (passT F.rs q) m2 ?_
    by_cases hc : ∃ i, i < F.n ∧ atP q i < upV (chainT F) F.n w i
    · have := mid_step ok v m hc
      omega
    · have : lowC F w (passT F.rs q) = 0 := by
        unfold lowC
        rw [List.countP_eq_zero]
        intro i hi
        have hi := List.mem_range.mp hi
        have hr : ∀ x ∈ F.rs, x.2.1 < q.length := fun x hx => by rw [m.len]; exact (ok.rp x hx).r
        have g := pass_ge F.rs q hr i
        have : ¬ atP q i < upV (chainT F) F.n w i := fun z => hc ⟨i, hi, z⟩
        simp
        omega
      omega
/-- what settled leads to -/
theorem settled_in (ok : F.Ok) {π : Nat → Int} (v : Valid F π) {q : List Int} {lo hi P0 : Int} (hl : q.length = F.n) (hlo : ∀ i < F.n, lo ≤ atP q i) (hhi : ∀ i < F.n, atP q i ≤ hi) (p0 : ∀ i < F.n, 0 ≤ π i) (p1 : ∀ i < F.n, π i ≤ P0) : PosIn F (passesT F.rs (F.n + 1) q) lo (hi + P0) := by
  have m0 : Mid F (atP q) q := ⟨hl, fun _ _ => Int.le_refl _, fun i _ => up_ge _ _ _ i⟩
  have hc : lowC F (atP q) q ≤ F.n + 1 := by
    have := List.countP_le_length (p := fun i => decide (atP q i < upV (chainT F) F.n (atP q) i)) (l := List.range F.n)
    rw [List.length_range] at this
    unfold lowC
    omega
  obtain ⟨m, e⟩ := mid_done ok v (F.n + 1) q m0 hc
  refine ⟨m.len, fun i hi => Int.le_trans (hlo i hi) (m.ge i hi), fun i hi' => ?_, fun x hx => ?_⟩
  · rw [e i hi']
    have v2 : Valid F (fun i => π i + hi) := fun x hx => by have := v x hx; simp only; omega
    have := up_least ok v2 (w := atP q) (fun j hj => by have := hhi j hj; have := p0 j hj; omega) hi'
    have := p1 i hi'
    omega
  · have okx := ok.rp x hx
    rw [e _ okx.f, e _ okx.r]
    exact up_valid ok v _ x hx
end
end HR

set_option linter.all false
set_option maxRecDepth 100000
set_option maxHeartbeats 1000000
/-! HR, mirror 24: settling, walked. -/
namespace HR
open PySem
theorem ixN_nat {n i : Nat} (h : i < n) : L2.ixN n (i : Int) = some i := by
  unfold L2.ixN
  have : (0 : Int) ≤ (i : Int) := by omega
  have h2 : (i : Int) < (n : Int) := by omega
  simp [this, h2]
theorem idxInts {m : Mem} {k i : Nat} {q : List Int} (e : m[k]? = some (.lst (q.map .int))) (h : i < q.length) : idxV (.ref k) (.int i) m = some (.int (atP q i)) := by
  rw [idxLst e (by simpa using h)]
  simp [List.getElem?_map, atP, List.getD, List.getElem?_eq_getElem h]
theorem setInts {m : Mem} {k i : Nat} {q : List Int} {v : Int} (e : m[k]? = some (.lst (q.map .int))) (h : i < q.length) : setSub (.ref k) (.int i) (.int v) m = some (m.set k (.lst ((q.set i v).map .int))) := by
  simp only [setSub, e, List.length_map, ixN_nat h, Option.map_some, List.map_set]
theorem passT_snoc (rs : List Rope) (q : List Int) (x : Rope) : passT (rs ++ [x]) q = relax (passT rs q) x := by simp [passT]
section
variable {G : Prog}
theorem settled_w (h223 : G.fns 223 = some fn223) {n k : Nat} {F : Fleet} {q : List Int} {m : Mem} {Q : D → Mem → Prop} (ok : F.Ok) (hk : m[k]? = some (.lst (q.map .int))) (hl : q.length = F.n) (hv : Valid F (atP (passesT F.rs (F.n + 1) q)))
    (h : ∀ m', Pf m m' → Q (posD (passesT F.rs (F.n + 1) q)) m') : (callN G (n + 1) 223 [F.d, .ref k] m).wp Q := by
  refine wp_call h223 rfl ?_
  have h8 := ok.n8
  have hlen := ok.len
  have hlim : lim62 ((F.n : Int) + 1) = true := by simp [lim62]; omega
  have e0 : L2.atI [D.int (F.n : Int), .tup (F.rs.map ropeD)] 0 = some (.int F.n) := rfl
  have e1 : L2.atI [D.int (F.n : Int), .tup (F.rs.map ropeD)] 1 = some (.tup (F.rs.map ropeD)) := rfl
  have en : ((F.n : Int) + 1).toNat = F.n + 1 := by omega
  simp only [fn223, startS, w_consS, w_asg, w_blt, w_cons, w_nil, w_var]
  simp [bltV, seqOf, listAt, hk]
  refine w_forS ?_
  simp [Fleet.d, idxV, e0, binAdd, mkIt, hlim, endIt, en]
  refine ws_for (fun i r m1 => m1 = m ++ [.lst ((passesT F.rs i q).map .int)] ∧ ∃ a3 a4 a5 a6, r = [some F.d, some (.ref k), some (.ref m.length), a3, a4, a5, a6]) ((List.range (F.n + 1)).map fun (j : Nat) => D.int (0 + j)) (fun _ _ _ _ => nth_rng) ⟨rfl, none, none, none, none, rfl⟩
    (fu_of (by simp; omega)) ?_ ?_
  · rintro i r m1 x hx ⟨rfl, a3, a4, a5, a6, rfl⟩
    refine ⟨_, by simp; rfl, ?_⟩
    simp only [w_consS]
    refine w_forS ?_
    simp [Fleet.d, idxV, e1, mkIt, srcOf, endIt]
    have hq := passes_len F.rs i q
    rw [passes_succ]
    generalize passesT F.rs i q = q1 at *
    refine ws_for (fun j r m1 => j ≤ F.rs.length ∧ m1 = m ++ [.lst ((passT (F.rs.take j) q1).map .int)] ∧ ∃ a3 a4 a5 a6, r = [some F.d, some (.ref k), some (.ref m.length), a3, a4, a5, a6]) (F.rs.map ropeD) (fun _ _ _ _ => by simp [It.nth, Src.all]) ⟨Nat.zero_le _, rfl, _, a4, a5, a6, rfl⟩
      (fu_of (by simp; omega)) ?_ ?_
    · rintro j r m1 x hx ⟨hj, rfl, b3, b4, b5, b6, rfl⟩
      simp only [List.getElem?_map, Option.map_eq_some_iff] at hx
      obtain ⟨y, hy, rfl⟩ := hx
      have hlt := (List.getElem?_eq_some_iff.mp hy).1
      have oky := ok.rp y (List.mem_of_getElem? hy)
      rw [take_snoc hy, passT_snoc]
      have hp := pass_len (F.rs.take j) q1
      generalize passT (F.rs.take j) q1 = q2 at *
      have ek : (m ++ [O.lst (q2.map .int)])[m.length]? = some (.lst (q2.map .int)) := get0
      have g1 := idxInts ek (i := y.1) (by have := oky.f; omega)
      have g2 := idxInts ek (i := y.2.1) (by have := oky.r; omega)
      have g3 := fun v => setInts (v := v) ek (i := y.2.1) (by have := oky.r; omega)
      refine ⟨_, by simp [ropeD]; rfl, ?_⟩
      simp [g1, g2, binSub, bltV, g3]
      exact ⟨by omega, by simp [relax]⟩
    · rintro r m1 ⟨_, rfl, b3, b4, b5, b6, rfl⟩
      simp only [List.length_map, List.take_length]
      simp [Fleet.d]
  · rintro r m1 ⟨rfl, a3, a4, a5, a6, rfl⟩
    simp only [List.length_map, List.length_range]
    have hq := passes_len F.rs (F.n + 1) q
    generalize passesT F.rs (F.n + 1) q = q1 at *
    have ek : (m ++ [O.lst (q1.map .int)])[m.length]? = some (.lst (q1.map .int)) := get0
    simp only [thenNx, w_consS]
    refine w_forS ?_
    simp [Fleet.d, idxV, e1, mkIt, srcOf, endIt]
    refine ws_for (fun j r m1 => m1 = m ++ [.lst (q1.map .int)] ∧ ∃ a3 a4 a5 a6, r = [some F.d, some (.ref k), some (.ref m.length), a3, a4, a5, a6]) (F.rs.map ropeD) (fun _ _ _ _ => by simp [It.nth, Src.all]) ⟨rfl, a3, a4, a5, a6, rfl⟩
      (fu_of (by simp; omega)) ?_ ?_
    · rintro j r m1 x hx ⟨rfl, b3, b4, b5, b6, rfl⟩
      simp only [List.getElem?_map, Option.map_eq_some_iff] at hx
      obtain ⟨y, hy, rfl⟩ := hx
      have hy := List.mem_of_getElem? hy
      have oky := ok.rp y hy
      have g1 := idxInts ek (i := y.1) (by have := oky.f; omega)
      have g2 := idxInts ek (i := y.2.1) (by have := oky.r; omega)
      have := hv y hy
      have hn : ¬ atP q1 y.2.1 < atP q1 y.1 - y.2.2 := by omega
      refine ⟨_, by simp [ropeD]; rfl, ?_⟩
      simp [g1, g2, binSub, cmpLtI, boolOf, hn]
    · rintro r m1 ⟨rfl, b3, b4, b5, b6, rfl⟩
      simp [bltV, ek]
      exact h _ (Pf.app m _)
end
end HR

set_option linter.all false
set_option maxRecDepth 100000
set_option maxHeartbeats 1000000
/-! HR, mirror 25: positions drawn. -/
namespace HR
open PySem
def Between (w : List Int) (lo hi : Int) : Prop := ∀ x ∈ w, lo ≤ x ∧ x ≤ hi
theorem Between.snoc {w : List Int} {lo hi x : Int} (h : Between w lo hi) (h1 : lo ≤ x) (h2 : x ≤ hi) : Between (w ++ [x]) lo hi := fun y hy => by
  rcases List.mem_append.mp hy with z | z
  · exact h y z
  · simp at z; subst z; exact ⟨h1, h2⟩
theorem Between.at {w : List Int} {lo hi : Int} (h : Between w lo hi) {i : Nat} (hi' : i < w.length) : lo ≤ atP w i ∧ atP w i ≤ hi := by
  have : atP w i = w[i] := by simp [atP, List.getD, List.getElem?_eq_getElem hi']
  rw [this]
  exact h _ (List.getElem_mem hi')
theorem row_pos {ns : List Int} {m : Mem} (h : RowAt ns m) : 1 ≤ m.length := by
  obtain ⟨i, s, t, e⟩ := h
  have := (List.getElem?_eq_some_iff.mp e).1
  omega
section
variable {G : Prog}
theorem four_big : 4 ≤ big := by unfold big; decide
theorem three_big : 3 ≤ big := by unfold big; decide
theorem positions_w (h280 : G.fns 280 = some fn280) (h223 : G.fns 223 = some fn223) (h225 : G.fns 225 = some fn225) {ns : List Int} {n k : Nat} {F : Fleet} {π : Nat → Int} {q : List Int} {lo hi P0 : Int} {m : Mem} {Q : D → Mem → Prop} (ok : F.Ok) (v : Valid F π) (p0 : ∀ i < F.n, 0 ≤ π i) (p1 : ∀ i < F.n, π i ≤ P0)
    (hr : RowAt ns m) (k1 : 1 ≤ k) (hk : m[k]? = some (.lst (q.map .int))) (hl : q.length = F.n) (hb : Between q lo hi) (h : ∀ p m', Gw ns m m' → RowAt ns m' → PosIn F p lo (hi + 199 + P0) → Q (posD p) m') : (callN G (n + 2) 225 [.ref 0, F.d, .ref k] m).wp Q := by
  refine wp_call h225 rfl ?_
  have h8 := ok.n8
  have g := gwG ns
  simp [fn225, startS, three_big]
  refine taken_w h280 (k := 3) ((g.app m _).row hr) (by omega) (by omega) fun a m1 ha gm1 hr1 => ?_
  have gm : Gw ns m m1 := g.trans (g.app m _) gm1
  have el : m1[m.length]? = some (.lst [.int 25, .int 25, .int 200]) := g.get gm1 (row_pos hr) get0
  obtain ⟨M, hM, hM1, hM2⟩ : ∃ M : Nat, idxV (.ref m.length) (.int a) m1 = some (.int M) ∧ 1 ≤ M ∧ M ≤ 200 := by
    rw [idxLst el (by simpa using ha)]
    rcases (by omega : a = 0 ∨ a = 1 ∨ a = 2) with rfl | rfl | rfl
    · exact ⟨25, rfl, by omega, by omega⟩
    · exact ⟨25, rfl, by omega, by omega⟩
    · exact ⟨200, rfl, by omega, by omega⟩
  simp [hM]
  have hk1 := g.get gm k1 hk
  refine w_lc ?_
  simp [mkIt, srcOf, listAt, hk1]
  refine lcG g (q.map .int) (fun i acc => ∃ w : List Int, acc = w.map .int ∧ w.length = i ∧ Between w lo (hi + 199)) (row_pos hr1) (by simp; omega) (fun i m2 h2 => nth_lst (g.get h2 k1 hk1)) ⟨[], rfl, rfl, fun x hx => by cases hx⟩ ?_ ?_
  · rintro i x acc m2 hx ⟨w, rfl, hw, hbw⟩ hm2
    simp only [List.getElem?_map, Option.map_eq_some_iff] at hx
    obtain ⟨u, hu, rfl⟩ := hx
    have hu2 := hb u (List.mem_of_getElem? hu)
    have hr2 := hm2.row hr1
    refine w_turnL (by simp [wipeS]; rfl) ?_
    simp [condB, four_big]
    refine taken_w h280 (k := 4) hr2 (by omega) (by omega) fun b m3 hb3 gm3 hr3 => ?_
    refine taken_w h280 (k := M) hr3 hM1 (by omega) fun c m4 hc4 gm4 hr4 => ?_
    have g4 := g.app m4 [.lst [.int 0, .int 0, .int b, .int c]]
    refine taken_w h280 (k := 4) (g4.row hr4) (by omega) (by omega) fun d m5 hd5 gm5 hr5 => ?_
    have el2 : m5[m4.length]? = some (.lst [.int 0, .int 0, .int b, .int c]) := g.get gm5 (row_pos hr4) get0
    obtain ⟨N, hN, hN1, hN2⟩ : ∃ N : Int, idxV (.ref m4.length) (.int d) m5 = some (.int N) ∧ 0 ≤ N ∧ N ≤ 199 := by
      rw [idxLst el2 (by simpa using hd5)]
      rcases (by omega : d = 0 ∨ d = 1 ∨ d = 2 ∨ d = 3) with rfl | rfl | rfl | rfl
      · exact ⟨0, rfl, by omega, by omega⟩
      · exact ⟨0, rfl, by omega, by omega⟩
      · exact ⟨b, rfl, by omega, by omega⟩
      · exact ⟨c, rfl, by omega, by omega⟩
    simp [hN, binAdd]
    exact ⟨g.trans (g.trans gm3 gm4) (g.trans g4 gm5), w ++ [u + N], by simp, by simp [hw], hbw.snoc (by omega) (by omega)⟩
  · rintro acc m2 ⟨w, rfl, hw, hbw⟩ hm2 e2
    have hw2 : w.length = F.n := by rw [hw]; simpa using hl
    have pin := settled_in ok v (q := w) (lo := lo) (hi := hi + 199) (P0 := P0) hw2 (fun i hi => (hbw.at (by omega)).1) (fun i hi => (hbw.at (by omega)).2) p0 p1
    simp [endIt]
    refine settled_w h223 ok e2 hw2 pin.val fun m3 hm3 => ?_
    exact h _ _ (g.trans (g.trans gm hm2) hm3.gw) (hm3.gw.row (hm2.row hr1)) pin
theorem start_draw_w (h280 : G.fns 280 = some fn280) (h223 : G.fns 223 = some fn223) (h225 : G.fns 225 = some fn225) (h226 : G.fns 226 = some fn226) {ns : List Int} {n : Nat} {F : Fleet} {π : Nat → Int} {P0 : Int} {m : Mem} {Q : D → Mem → Prop} (ok : F.Ok) (v : Valid F π) (p0 : ∀ i < F.n, 0 ≤ π i) (p1 : ∀ i < F.n, π i ≤ P0)
    (hr : RowAt ns m) (h : ∀ p m', Gw ns m m' → RowAt ns m' → PosIn F p (-4) (4 + 199 + P0) → Q (posD p) m') : (callN G (n + 3) 226 [.ref 0, F.d] m).wp Q := by
  refine wp_call h226 rfl ?_
  have h8 := ok.n8
  have g := gwG ns
  have hlim : lim62 (F.n : Int) = true := by simp [lim62]; omega
  have e0 : L2.atI [D.int (F.n : Int), .tup (F.rs.map ropeD)] 0 = some (.int F.n) := rfl
  simp only [fn226, startS, w_consS, w_ret, w_call, w_cons, w_var]
  simp
  refine w_lc ?_
  simp [Fleet.d, idxV, e0, mkIt, hlim]
  refine lcG g ((List.range F.n).map fun (j : Nat) => D.int (0 + j)) (fun i acc => ∃ w : List Int, acc = w.map .int ∧ w.length = i ∧ Between w (-4) 4) (row_pos hr) (by simp; omega) (fun _ _ _ => nth_rng) ⟨[], rfl, rfl, fun x hx => by cases hx⟩ ?_ ?_
  · rintro i x acc m2 hx ⟨w, rfl, hw, hbw⟩ hm2
    have hr2 := hm2.row hr
    refine w_turnL (by simp [wipeS]; rfl) ?_
    simp [condB]
    refine taken_w h280 (k := 9) hr2 (by omega) (by omega) fun b m3 hb3 gm3 hr3 => ?_
    simp [binSub]
    exact ⟨gm3, w ++ [(b : Int) - 4], by simp, by simp [hw], hbw.snoc (by omega) (by omega)⟩
  · rintro acc m2 ⟨w, rfl, hw, hbw⟩ hm2 e2
    simp [endIt]
    have := positions_w (n := n) h280 h223 h225 ok v p0 p1 (hm2.row hr) (row_pos hr) e2 (by simpa using hw) hbw (Q := Q) fun p m3 g3 hr3 pin => h p m3 (g.trans hm2 g3) hr3 pin
    exact this
end
end HR

set_option linter.all false
set_option maxRecDepth 100000
set_option maxHeartbeats 1000000
/-! HR, mirror 26: fleets drawn. -/
namespace HR
open PySem
/-- ropes drawn so far -/
structure RopesIn (n : Nat) (π : Nat → Int) (rs : List Rope) : Prop where
  ok : ∀ x ∈ rs, RopeOk n x
  val : ∀ x ∈ rs, π x.1 - π x.2.1 ≤ x.2.2
theorem RopesIn.snoc {n : Nat} {π : Nat → Int} {rs : List Rope} {x : Rope} (h : RopesIn n π rs) (h1 : RopeOk n x) (h2 : π x.1 - π x.2.1 ≤ x.2.2) : RopesIn n π (rs ++ [x]) :=
  ⟨fun y hy => by
    rcases List.mem_append.mp hy with z | z
    · exact h.ok y z
    · simp at z; subst z; exact h1, fun y hy => by
    rcases List.mem_append.mp hy with z | z
    · exact h.val y z
    · simp at z; subst z; exact h2⟩
theorem cut40 {α : Type} (xs : List α) : cut xs none (some 40) = xs.take 40 := by
  unfold cut
  simp [_root_.HT.sIx]
theorem bltIntB {m : Mem} {b : Bool} : bltV .int [.bl b] m = .ok (.int (if b then 1 else 0)) m := rfl
theorem binMulS {m : Mem} {i : Int} {j : Nat} (h : j ≤ 1000) : binV .Mult (.int i) (.int (j : Int)) m = .ok (.int (i * j)) m := by
  have : small (j : Int) = true := by simp [small]; omega
  simp [binV, this]
theorem five_big : 5 ≤ big := by unfold big; decide
section
variable {G : Prog}
theorem more_w (h280 : G.fns 280 = some fn280) {ns : List Int} {n K d e ka : Nat} {m : Mem} {Q2 : D → Mem → Prop} (hr : RowAt ns m) (hK1 : K = 1 ∨ K = 8) (hd : d < 12) (he : e < 45) (k1 : 1 ≤ ka) (ea : m[ka]? = some (.lst [.int 0, .int 0, .int 1, .int 3, .int d]))
    (h : ∀ (X : Nat) m', Gw ns m m' → RowAt ns m' → X + K * 11 ≤ 99 → Q2 (.int X) m') :
    (bltV .int [.bl (decide ((K : Int) = 1))] (m ++ [.lst [.int (40 + (e : Int))]])).wp fun y m2 => (binV .Mult (.ref m.length) y m2).wp fun y m2 => (binV .Add (.ref ka) y m2).wp fun d m1 => (bltV .len [d] m1).wp fun d1 m1 => (callN G (n + 1) 280 [.ref 0, d1] m1).wp fun y m2 => osat (idxV d y m2) fun d => Q2 d m2 := by
  have g := gwG ns
  have hka := (List.getElem?_eq_some_iff.mp ea).1
  have hbig : big = 1000000 := rfl
  rcases hK1 with rfl | rfl
  · have e1 : (m ++ [O.lst [D.int (40 + (e : Int))], .lst [.int (40 + (e : Int))]])[ka]? = some (.lst [.int 0, .int 0, .int 1, .int 3, .int d]) := by rw [getLt hka]; exact ea
    have e2 : (m ++ [O.lst [D.int (40 + (e : Int))], .lst [.int (40 + (e : Int))]])[m.length + 1]? = some (.lst [.int (40 + (e : Int))]) := get1
    simp [bltIntB, binV, e1, e2, hbig, bltV]
    have gb := g.app m [.lst [.int (40 + (e : Int))], .lst [.int (40 + (e : Int))], .lst [.int 0, .int 0, .int 1, .int 3, .int d, .int (40 + (e : Int))]]
    refine taken_w h280 (k := 6) (gb.row hr) (by omega) (by omega) fun c m2 hc gm hr2 => ?_
    have e3 : m2[m.length + 2]? = some (.lst [.int 0, .int 0, .int 1, .int 3, .int d, .int (40 + (e : Int))]) := g.get gm (by omega) (by simp)
    rw [idxLst e3 (by simpa using hc)]
    have gf := g.trans gb gm
    rcases (by omega : c = 0 ∨ c = 1 ∨ c = 2 ∨ c = 3 ∨ c = 4 ∨ c = 5) with rfl | rfl | rfl | rfl | rfl | rfl
    · exact h 0 _ gf hr2 (by omega)
    · exact h 0 _ gf hr2 (by omega)
    · exact h 1 _ gf hr2 (by omega)
    · exact h 3 _ gf hr2 (by omega)
    · exact h d _ gf hr2 (by omega)
    · have := h (40 + e) _ gf hr2 (by omega)
      simpa using this
  · have e1 : (m ++ [O.lst [D.int (40 + (e : Int))], .lst []])[ka]? = some (.lst [.int 0, .int 0, .int 1, .int 3, .int d]) := by rw [getLt hka]; exact ea
    have e2 : (m ++ [O.lst [D.int (40 + (e : Int))], .lst []])[m.length + 1]? = some (.lst []) := get1
    simp [bltIntB, binV, e1, e2, hbig, bltV]
    have gb := g.app m [.lst [.int (40 + (e : Int))], .lst [], .lst [.int 0, .int 0, .int 1, .int 3, .int d]]
    refine taken_w h280 (k := 5) (gb.row hr) (by omega) (by omega) fun c m2 hc gm hr2 => ?_
    have e3 : m2[m.length + 2]? = some (.lst [.int 0, .int 0, .int 1, .int 3, .int d]) := g.get gm (by omega) (by simp)
    rw [idxLst e3 (by simpa using hc)]
    have gf := g.trans gb gm
    rcases (by omega : c = 0 ∨ c = 1 ∨ c = 2 ∨ c = 3 ∨ c = 4) with rfl | rfl | rfl | rfl | rfl
    · exact h 0 _ gf hr2 (by omega)
    · exact h 0 _ gf hr2 (by omega)
    · exact h 1 _ gf hr2 (by omega)
    · exact h 3 _ gf hr2 (by omega)
    · exact h d _ gf hr2 (by omega)
theorem fleetM_w (h280 : G.fns 280 = some fn280) (h224 : G.fns 224 = some fn224) {ns : List Int} {n M : Nat} {m : Mem} {Q : D → Mem → Prop} (M1 : 1 ≤ M) (M8 : M ≤ 8) (hr : RowAt ns m)
    (h : ∀ F π m', Gw ns m m' → RowAt ns m' → F.Ok → Valid F π → (∀ i < F.n, 0 ≤ π i) → (∀ i < F.n, π i ≤ 88) → F.n ≤ M → Q F.d m') : (callN G (n + 2) 224 [.ref 0, .int M] m).wp Q := by
  refine wp_call h224 rfl ?_
  have g := gwG ns
  simp [fn224, startS]
  refine taken_w h280 (k := M) hr (by omega) (by omega) fun a m1 ha gm1 hr1 => ?_
  obtain ⟨N, hN⟩ : ∃ N : Nat, N = a + 1 := ⟨_, rfl⟩
  have eN : (1 : Int) + (a : Int) = (N : Int) := by omega
  simp [binAdd, eN, three_big]
  refine taken_w h280 (k := 3) ((g.app m1 _).row hr1) (by omega) (by omega) fun b m2 hb gm2 hr2 => ?_
  have el : m2[m1.length]? = some (.lst [.int 1, .int 1, .int 8]) := g.get gm2 (row_pos hr1) get0
  obtain ⟨K, hK, hK1⟩ : ∃ K : Nat, idxV (.ref m1.length) (.int b) m2 = some (.int K) ∧ (K = 1 ∨ K = 8) := by
    rw [idxLst el (by simpa using hb)]
    rcases (by omega : b = 0 ∨ b = 1 ∨ b = 2) with rfl | rfl | rfl
    · exact ⟨1, rfl, .inl rfl⟩
    · exact ⟨1, rfl, .inl rfl⟩
    · exact ⟨8, rfl, .inr rfl⟩
  simp [hK]
  have gm : Gw ns m m2 := g.trans gm1 (g.trans (g.app m1 _) gm2)
  have hlim : lim62 (N : Int) = true := by simp [lim62]; omega
  with_reducible refine R.wp.mono (Q := fun d m3 => ∃ pl : List Int, d = .ref m2.length ∧ Gw ns m2 m3 ∧ m3[m2.length]? = some (.lst (pl.map .int)) ∧ pl.length = N ∧ Between pl 0 ((K : Int) * 11)) (w_lc ?_) ?_
  rotate_left
  · rintro d m3 ⟨pl, rfl, gm3, e3, hpl, hbt⟩
    have hr3 := gm3.row hr2
    have m3p := row_pos hr3
    have m2p := row_pos hr2
    refine w_forS ?_
    have h3 : binV .Mult (.int 3) (.int (N : Int)) (m3 ++ [.lst []]) = .ok (.int ((3 * N : Nat) : Int)) (m3 ++ [.lst []]) := by
      rw [binMulS (by omega)]
      congr 2
    simp only [w_cons, w_nil, w_call, w_var, w_bin, w_int]
    simp [h3]
    refine taken_w h280 (k := 3 * N) ((g.app m3 _).row hr3) (by omega) (by omega) fun c m4 hc gm4 hr4 => ?_
    have hlim2 : lim62 (c : Int) = true := by simp [lim62]; omega
    have g34 : Gw ns m3 m4 := g.trans (g.app m3 _) gm4
    have e4 : m4[m3.length]? = some (.lst []) := g.get gm4 m3p get0
    have hp4 : m4[m2.length]? = some (.lst (pl.map .int)) := g.get g34 m2p e3
    simp [mkIt, hlim2, endIt]
    refine ws_for (fun i r m5 => (∃ rs : List Rope, m5[m3.length]? = some (.lst (rs.map ropeD)) ∧ RopesIn N (atP pl) rs ∧ rs.length ≤ 2 * i) ∧ Gw ns m3 m5 ∧ ∃ a6 a7 a8 a9 a10 a11, r = [some (.ref 0), some (.int M), some (.int N), some (.int K), some (.ref m2.length), some (.ref m3.length), a6, a7, a8, a9, a10, a11]) ((List.range c).map fun (j : Nat) => D.int (0 + j)) (fun _ _ _ _ => nth_rng)
      ⟨⟨[], e4, ⟨fun x hx => (by cases hx), fun x hx => (by cases hx)⟩, Nat.le_refl _⟩, g34, none, none, none, none, none, none, rfl⟩ (fu_of (by simp; omega)) ?_ ?_
    · rintro i r m5 x hx ⟨⟨rs, e5, hrs, hrl⟩, g5, a6, a7, a8, a9, a10, a11, rfl⟩
      have hi : i < c := by have := (List.getElem?_eq_some_iff.mp hx).1; simpa using this
      refine ⟨_, by simp; rfl, ?_⟩
      simp
      refine taken_w h280 (k := N) (g5.row hr3) (by omega) (by omega) fun f m6 hf gm6 hr6 => ?_
      refine taken_w h280 (k := N) hr6 (by omega) (by omega) fun q m7 hq gm7 hr7 => ?_
      have g57 : Gw ns m5 m7 := g.trans gm6 gm7
      have e7 : m7[m3.length]? = some (.lst (rs.map ropeD)) := g.get g57 m3p e5
      by_cases hfq : f = q
      · subst hfq
        simp [setMany, cmpV, boolOf]
        exact ⟨⟨rs, e7, hrs, by omega⟩, g.trans g5 g57⟩
      · have hfq2 : ¬ (f : Int) = (q : Int) := by omega
        simp [setMany, cmpV, boolOf, hfq2]
        refine taken_w h280 (k := 12) hr7 (by omega) (by omega) fun d m8 hd gm8 hr8 => ?_
        simp [five_big, one_big]
        have ga := g.app m8 [.lst [.int 0, .int 0, .int 1, .int 3, .int d]]
        refine taken_w h280 (k := 45) (ga.row hr8) (by omega) (by omega) fun e m9 he gm9 hr9 => ?_
        have ea : m9[m8.length]? = some (.lst [.int 0, .int 0, .int 1, .int 3, .int d]) := g.get gm9 (row_pos hr8) get0
        simp [binAdd, five_big, one_big]
        refine more_w h280 hr9 hK1 hd he (row_pos hr8) ea fun X m10 gm10 hr10 hX => ?_
        have g710 : Gw ns m7 m10 := g.trans (g.trans gm8 ga) (g.trans gm9 gm10)
        have e10 := g.get g710 m3p e7
        have p10 : m10[m2.length]? = some (.lst (pl.map .int)) := g.get (g.trans g5 (g.trans g57 g710)) m2p (g.get (g.refl m3) m2p e3)
        have i1 := idxInts p10 (i := f) (by omega)
        have i2 := idxInts p10 (i := q) (by omega)
        have b1 := hbt.at (i := f) (by omega)
        have b2 := hbt.at (i := q) (by omega)
        have hbig : big = 1000000 := rfl
        have hb : (rs.map ropeD).length < big := by simp; omega
        simp [rcv, listAt, e10, i1, i2, binSub, binAdd, three_big]
        simp only [bmV, e10, hb, if_true, wpOk]
        have hx1 : RopesIn N (atP pl) (rs ++ [(f, q, atP pl f - atP pl q + X)]) := hrs.snoc ⟨hf, hq, hfq, by simp only; omega, by simp only; omega⟩ (by simp only; omega)
        have e11 : (m10.set m3.length (.lst (rs.map ropeD ++ [.tup [.int f, .int q, .int (atP pl f - atP pl q + X)]])))[m3.length]? = some (.lst ((rs ++ [(f, q, atP pl f - atP pl q + (X : Int))]).map ropeD)) := by
          have := (List.getElem?_eq_some_iff.mp e10).1
          simp [List.getElem?_set_self this, ropeD]
        have g3 : Gw ns m3 (m10.set m3.length (.lst (rs.map ropeD ++ [.tup [.int f, .int q, .int (atP pl f - atP pl q + X)]]))) := g.put (g.trans g5 (g.trans g57 g710)) (Nat.le_refl _)
        generalize m10.set m3.length (.lst (rs.map ropeD ++ [.tup [.int f, .int q, .int (atP pl f - atP pl q + X)]])) = m11 at *
        refine taken_w h280 (k := 3) (g3.row hr3) (by omega) (by omega) fun t m12 ht g12 hr12 => ?_
        have e12 := g.get g12 m3p e11
        have p12 := g.get (g.trans g3 g12) m2p e3
        have j1 := idxInts p12 (i := f) (by omega)
        have j2 := idxInts p12 (i := q) (by omega)
        by_cases ht0 : t = 0
        · subst ht0
          simp [rcv, listAt, e12, j1, j2, binSub]
          refine taken_w h280 (k := 2) hr12 (by omega) (by omega) fun u m13 hu g13 hr13 => ?_
          have e13 := g.get g13 m3p e12
          have hb2 : ((rs ++ [(f, q, atP pl f - atP pl q + (X : Int))]).map ropeD).length < big := by simp; omega
          have hXu : (0 : Int) ≤ (X : Int) * u ∧ (X : Int) * u ≤ X := by
            rcases (by omega : u = 0 ∨ u = 1) with rfl | rfl <;> simp
          simp only [binMulS (by omega : u ≤ 1000), wpOk, binAdd]
          simp only [bmV, e13, hb2, if_true, wpOk]
          refine ⟨⟨rs ++ [(f, q, atP pl f - atP pl q + (X : Int))] ++ [(q, f, atP pl q - atP pl f + (X : Int) * u)], ?_, hx1.snoc ⟨hq, hf, fun z => hfq z.symm, by simp only; omega, by simp only; omega⟩ (by simp only; omega), by simp; omega⟩, g.put (g.trans (g.trans g3 g12) g13) (Nat.le_refl _)⟩
          have := (List.getElem?_eq_some_iff.mp e13).1
          rw [List.getElem?_set_self this]
          simp [ropeD]
        · have ht1 : ¬ (t : Int) = 0 := by omega
          simp [ht1, ht0]
          exact ⟨⟨_, e12, hx1, by simp; omega⟩, g.trans g3 g12⟩
    · rintro r m5 ⟨⟨rs, e5, hrs, hrl⟩, g5, a6, a7, a8, a9, a10, a11, rfl⟩
      have hok : Fleet.Ok ⟨N, rs.take 40⟩ := ⟨by simp only; omega, by simp only; omega, by simp; omega, fun x hx => hrs.ok x (List.mem_of_mem_take hx)⟩
      have hval : Valid ⟨N, rs.take 40⟩ (atP pl) := fun x hx => hrs.val x (List.mem_of_mem_take hx)
      have hfin := h ⟨N, rs.take 40⟩ (atP pl) (m5 ++ [.lst ((rs.take 40).map ropeD)]) (g.trans gm (g.trans gm3 (g.trans g5 (g.app m5 _)))) ((g.app m5 _).row (g5.row hr3)) hok hval (fun i hi => (hbt.at (by rw [hpl]; exact hi)).1) (fun i hi => by have := (hbt.at (i := i) (by rw [hpl]; exact hi)).2; omega) (by simp only; omega)
      simp [slcV, listAt, e5, optI, cut40, bltV, two_big]
      simpa [Fleet.d] using hfin
  · simp [mkIt, hlim]
    refine lcG g ((List.range N).map fun (j : Nat) => D.int (0 + j)) (fun i acc => ∃ w : List Int, acc = w.map .int ∧ w.length = i ∧ Between w 0 ((K : Int) * 11)) (row_pos hr2) (by simp; omega) (fun _ _ _ => nth_rng) ⟨[], rfl, rfl, fun x hx => by cases hx⟩ ?_ ?_
    · rintro i x acc m3 hx ⟨w, rfl, hw, hbw⟩ hm3
      refine w_turnL (by simp [wipeS]; rfl) ?_
      simp [condB]
      refine taken_w h280 (k := 12) (hm3.row hr2) (by omega) (by omega) fun c m4 hc gm4 hr4 => ?_
      simp [binMulS (by omega : c ≤ 1000)]
      refine ⟨gm4, w ++ [(K : Int) * c], by simp, by simp [hw], hbw.snoc ?_ ?_⟩
      · exact Int.mul_nonneg (by omega) (by omega)
      · exact Int.mul_le_mul_of_nonneg_left (by omega) (by omega)
    · rintro acc m3 ⟨w, rfl, hw, hbw⟩ hm3 e3
      simp [endIt]
      exact ⟨hm3, w, e3, by simpa using hw, hbw⟩
theorem fleet_w (h280 : G.fns 280 = some fn280) (h224 : G.fns 224 = some fn224) {ns : List Int} {n : Nat} {m : Mem} {Q : D → Mem → Prop} (hr : RowAt ns m)
    (h : ∀ F π m', Gw ns m m' → RowAt ns m' → F.Ok → Valid F π → (∀ i < F.n, 0 ≤ π i) → (∀ i < F.n, π i ≤ 88) → Q F.d m') : (callN G (n + 2) 224 [.ref 0, .int 7] m).wp Q :=
  fleetM_w h280 h224 (M := 7) (by omega) (by omega) hr fun F π m' h1 h2 h3 h4 h5 h6 _ => h F π m' h1 h2 h3 h4 h5 h6
end
end HR

set_option linter.all false
set_option maxRecDepth 100000
set_option maxHeartbeats 1000000
/-! HR, mirror 27: hauls drawn. -/
namespace HR
open PySem
theorem posAt_app (T : Ents) (p : List Int) (hs : List (Nat × Int)) (h : Nat × Int) {i : Nat} (hi : i ≤ hs.length) : posAt T p (hs ++ [h]) i = posAt T p hs i := by
  unfold posAt
  rw [List.take_append_of_le_length hi]
theorem StepsOk.snoc {T : Ents} {p : List Int} {hs : List (Nat × Int)} {h : Nat × Int} (s : StepsOk T p hs) (k : HaulOk (posAt T p hs hs.length) h) : StepsOk T p (hs ++ [h]) := by
  intro i x hx
  by_cases hi : i < hs.length
  · rw [posAt_app T p hs h (by omega)]
    rw [List.getElem?_append_left hi] at hx
    exact s i x hx
  · have hl := (List.getElem?_eq_some_iff.mp hx).1
    have : i = hs.length := by simp at hl; omega
    subst this
    simp at hx
    subst hx
    rw [posAt_app T p hs h (Nat.le_refl _)]
    exact k
theorem dist_app (T : Ents) (p : List Int) (hs : List (Nat × Int)) (h : Nat × Int) : distT T p (hs ++ [h]) (hs.length + 1) = distT T p hs hs.length ++ [h.2 - atP (posAt T p hs hs.length) h.1] := by
  unfold distT
  rw [List.range_succ, List.map_append]
  congr 1
  · apply List.map_congr_left
    intro i hi
    have hi := List.mem_range.mp hi
    rw [posAt_app T p hs h (by omega)]
    simp [List.getD, List.getElem?_append_left hi]
  · simp [posAt_app T p hs h (Nat.le_refl _), List.getD]
theorem posAt_snoc (T : Ents) (p : List Int) (hs : List (Nat × Int)) (h : Nat × Int) : posAt T p (hs ++ [h]) (hs.length + 1) = dragP T (posAt T p hs hs.length) h.1 h.2 := by
  rw [posAt_succ (h := h) T p (by simp), posAt_app T p hs h (Nat.le_refl _)]
end HR

set_option linter.all false
set_option maxRecDepth 100000
set_option maxHeartbeats 1000000
/-! HR, mirror 28: hauls drawn, walked. -/
namespace HR
open PySem
theorem two_big2 : 2 ≤ big := two_big
section
variable {G : Prog}
theorem pos_drag_w (h280 : G.fns 280 = some fn280) {ns : List Int} {n : Nat} {m : Mem} {Q : D → Mem → Prop} (hr : RowAt ns m) (h : ∀ (s : Nat) m', s < 40 → Gw ns m m' → RowAt ns m' → Q (.int s) m') :
    (callN G (n + 1) 280 [.ref 0, .int 2] (m ++ [.lst [.int 3, .int 40]])).wp fun y m1 => osat (idxV (.ref m.length) y m1) fun d => (callN G (n + 1) 280 [.ref 0, d] m1).wp Q := by
  have g := gwG ns
  have ga := g.app m [.lst [.int 3, .int 40]]
  refine taken_w h280 (k := 2) (ga.row hr) (by omega) (by omega) fun c m2 hc gm hr2 => ?_
  have e3 : m2[m.length]? = some (.lst [.int 3, .int 40]) := g.get gm (row_pos hr) get0
  rw [idxLst e3 (by simpa using hc)]
  rcases (by omega : c = 0 ∨ c = 1) with rfl | rfl
  · exact taken_w h280 (k := 3) hr2 (by omega) (by omega) fun s m3 hs g3 hr3 => h s m3 (by omega) (g.trans (g.trans ga gm) g3) hr3
  · exact taken_w h280 (k := 40) hr2 (by omega) (by omega) fun s m3 hs g3 hr3 => h s m3 (by omega) (g.trans (g.trans ga gm) g3) hr3
end
end HR

set_option linter.all false
set_option maxRecDepth 100000
set_option maxHeartbeats 1000000
/-! HR, mirror 29: hauls drawn, walked. -/
namespace HR
open PySem
theorem ne_pos {m : Mem} {p : List Int} : cmpV .NotEq (posD p) (posD p) m = some false := by
  simp only [cmpV]
  rw [eq_pos]
  simp
theorem filt_eq {T : Ents} {p : List Int} {b : Nat} {v : Int} {n : Nat} (h : p.length = n) : ((aheadL T p b v n).filter fun i => decide (i ≠ b)) = (List.range n).filter fun i => decide (atP (dragP T p b v) i ≠ atP p i) && decide (i ≠ b) := by
  unfold aheadL
  rw [List.filter_filter]
  apply List.filter_congr
  intro i hi
  have hi := List.mem_range.mp hi
  have := drag_ge (p := p) (b := b) (v := v) T (i := i) (by omega)
  by_cases h1 : i = b
  · simp [h1]
  · rw [Bool.eq_iff_iff]
    simp [h1]
    omega
theorem cmpNe {m : Mem} {i j : Int} : cmpV .NotEq (.int i) (.int j) m = some (decide (i ≠ j)) := by simp [cmpV]
theorem filt_succ {f : Nat → Bool} {i : Nat} : (List.range (i + 1)).filter f = (List.range i).filter f ++ if f i = true then [i] else [] := by
  rw [List.range_succ, List.filter_append]
  cases h : f i <;> simp [h]
theorem nats_ints (l : List Nat) : l.map natD = (l.map fun (i : Nat) => (i : Int)).map .int := by simp [natD, Function.comp_def]
theorem eq_nats {m : Mem} {a b : Nat} {l : List Nat} (h : m[a]? = some (.lst (l.map natD))) (h2 : m[b]? = some (.lst (l.map natD))) : eqD m (.ref a) (.ref b) = some true := by
  rw [nats_ints] at h h2
  exact eq_ints h h2
section
variable {G : Prog}
theorem hauled_w (P : PkH G) (h29 : G.fns 29 = some fn29) (h31 : G.fns 31 = some fn31) (h32 : G.fns 32 = some fn32) (h33 : G.fns 33 = some fn33) (h34 : G.fns 34 = some fn34) (h57 : G.fns 57 = some fn57) (h280 : G.fns 280 = some fn280) (h281 : G.fns 281 = some fn281) (h283 : G.fns 283 = some fn283)
    {ns : List Int} {n k : Nat} {F : Fleet} {p : List Int} {rf : Nat → Nat} {m : Mem} {Q : D → Mem → Prop} (hr : RowAt ns m) (ok : F.Ok) (pin : PosIn F p (-4) 291) (l : LenAt m k F.n (chainT F) rf) (h : ∀ m', Gw ns m m' → RowAt ns m' → Q (.bl true) m') :
    (callN G (n + 8) 283 [.ref 0, F.d, .ref k, posD p] m).wp Q := by
  refine wp_call h283 rfl ?_
  have g := gwG ns
  have h8 := ok.n8
  have hn1 := ok.n1
  have hpl := pin.len
  have e0 : L2.atI [D.int (F.n : Int), .tup (F.rs.map ropeD)] 0 = some (.int F.n) := rfl
  have hlim : lim62 (3 : Int) = true := by simp [lim62]
  simp [fn283, startS, three_big]
  refine w_forS ?_
  simp [mkIt, hlim, endIt]
  refine ws_for (fun i r m1 => ∃ hs : List (Nat × Int), hs.length = i ∧ StepsOk (chainT F) p hs ∧ PosIn F (posAt (chainT F) p hs i) (-4) (291 + 39 * i) ∧ m1[m.length]? = some (.lst (hs.map haulD)) ∧ Gw ns m m1 ∧ ∃ a4 a8 a9 a10 a11 a12, r = [some (.ref 0), some F.d, some (.ref k), some (posD p), a4, some (posD (posAt (chainT F) p hs i)), some (.ref m.length), some (.int (distT (chainT F) p hs i).sum), a8, a9, a10, a11, a12]) ((List.range 3).map fun (j : Nat) => D.int (0 + j)) (fun _ _ _ _ => nth_rng)
    ⟨[], rfl, fun i x hx => by simp at hx, by simpa [posAt_zero] using pin, get0, g.app m _, none, none, none, none, none, none, by simp [posAt_zero, distT]⟩ (fu_of (by simp)) ?_ ?_
  · rintro i r m1 x hx ⟨hs, hsl, hst, hpin, e6, g1, a4, a8, a9, a10, a11, a12, rfl⟩
    subst hsl
    generalize hcur : posAt (chainT F) p hs hs.length = cur at *
    have hi3 : hs.length < 3 := by have := (List.getElem?_eq_some_iff.mp hx).1; simpa using this
    refine ⟨_, by simp; rfl, ?_⟩
    have hr1 := g1.row hr
    have eF : ∀ m : Mem, idxV F.d (.int 0) m = some (.int F.n) := fun _ => rfl
    simp [eF, two_big]
    refine taken_w h280 (k := F.n) hr1 (by omega) (by omega) fun b m2 hb gm2 hr2 => ?_
    have hcl : cur.length = F.n := hpin.len
    simp [idxPos (by omega : b < cur.length)]
    refine pos_drag_w h280 hr2 fun s m3 hs40 g3 hr3 => ?_
    simp [binAdd]
    have hk3 := l.grow g (g.trans g1 (g.trans gm2 g3))
    refine lawDrag_w h281 (by rw [hcl]; exact hk3) (by omega) (by omega) fun m4 hm4 => ?_
    have pok := hpin.ok (by omega) (by omega)
    have hh : HaulOk cur (b, atP cur b + s) := ⟨by omega, by simp only; omega, by have := hpin.hi b (by omega); simp only; omega⟩
    refine haul_w P h29 h31 h32 ok pok hh fun m5 hm5 => ?_
    simp only [ne_pos, osat_some]
    simp [boolOf]
    have hlimn : lim62 (F.n : Int) = true := by simp [lim62]; omega
    have hr5 : RowAt ns m5 := (hm4.trans hm5).gw.row hr3
    with_reducible refine R.wp.mono (Q := fun d m6 => d = .ref m5.length ∧ Gw ns m5 m6 ∧ m6[m5.length]? = some (.lst (((List.range F.n).filter fun i => decide (atP (dragP (chainT F) cur b (atP cur b + s)) i ≠ atP cur i) && decide (i ≠ b)).map natD))) (w_lc ?_) ?_
    · simp [eF, mkIt, hlimn, endIt]
      refine lcG g ((List.range F.n).map fun (j : Nat) => D.int (0 + j)) (fun i acc => acc = ((List.range i).filter fun i => decide (atP (dragP (chainT F) cur b (atP cur b + s)) i ≠ atP cur i) && decide (i ≠ b)).map natD) (row_pos hr5) (by simp; omega) (fun _ _ _ => nth_rng) rfl ?_ ?_
      · rintro i x acc m6 hx rfl hm6
        simp only [List.getElem?_map, Option.map_eq_some_iff] at hx
        obtain ⟨j, hj, rfl⟩ := hx
        have hi : i < F.n := by have := (List.getElem?_eq_some_iff.mp hj).1; simpa using this
        rw [List.getElem?_range hi] at hj
        cases hj
        refine w_turnL (by simp [wipeS]; rfl) ?_
        have i1 := idxPos (m := m6) (p := dragP (chainT F) cur b (atP cur b + s)) (i := i) (by rw [dragP_len]; omega)
        have i2 := idxPos (m := m6) (p := cur) (i := i) (by omega)
        simp [i1, i2, cmpNe, boolOf, filt_succ]
        by_cases c1 : atP (dragP (chainT F) cur b (atP cur b + s)) i = atP cur i
        · simp [c1, boolOf, condB]
          exact g.refl _
        · by_cases c2 : i = b
          · subst c2
            simp [c1, boolOf, condB]
            exact g.refl _
          · have c3 : ¬ (i : Int) = (b : Int) := by omega
            simp [c1, c2, c3, boolOf, condB, natD]
            exact g.refl _
      · rintro acc m6 rfl hm6 e7
        simp only [List.length_map, List.length_range] at e7
        exact ⟨hm6, by simpa using e7⟩
    · rintro d m6 ⟨rfl, g6, e6'⟩
      rw [← filt_eq hcl] at e6'
      refine dragged_w P h29 h31 h32 h57 (row_pos (g6.row hr5)) ok pok hh fun m7 kd hm7 hkd e7 => ?_
      have e8 := hm7.get e6'
      rw [hcl] at e7
      refine osat_of (a := false) (by simp only [cmpV]; rw [eq_nats e7 e8]; rfl) ?_
      have g17 : Gw ns m1 m7 := g.trans (g.trans gm2 g3) (g.trans (hm4.trans hm5).gw (g.trans g6 hm7.gw))
      have e9 : m7[m.length]? = some (.lst (hs.map haulD)) := g.get g17 (row_pos hr) e6
      have hbig : big = 1000000 := rfl
      have hb2 : (hs.map haulD).length < big := by simp; omega
      simp [binSub, rcv, listAt, e9]
      simp only [bmV, e9, hb2, if_true, wpOk]
      have hh2 : HaulOk (posAt (chainT F) p hs hs.length) (b, atP cur b + s) := by rw [hcur]; exact hh
      have hml := (List.getElem?_eq_some_iff.mp e9).1
      refine ⟨hs ++ [(b, atP cur b + s)], by simp, hst.snoc hh2, ?_, ?_, g.put (g.trans g1 g17) (Nat.le_refl _), ?_, ?_⟩
      · rw [posAt_snoc, hcur]
        have := drag_in (b := b) (v := atP cur b + s) ok hpin (by omega)
        refine ⟨this.len, this.lo, fun i hi => ?_, this.val⟩
        have := this.hi i hi
        simp only at this ⊢
        omega
      · rw [List.getElem?_set_self hml]
        simp [haulD]
      · rw [posAt_snoc, hcur]
      · rw [dist_app, hcur]
        simp
        omega
  · rintro r m1 ⟨hs, hsl, hst, hpin, e6, g1, a4, a8, a9, a10, a11, a12, rfl⟩
    have e3 : ((List.range 3).map fun (j : Nat) => D.int (0 + j)).length = 3 := by simp
    rw [e3] at hsl hpin ⊢
    have p3 : posAt (chainT F) p hs 3 = posAt (chainT F) p hs hs.length := by rw [hsl]
    have d3 : distT (chainT F) p hs 3 = distT (chainT F) p hs hs.length := by rw [hsl]
    rw [p3, d3]
    have pok := pin.ok (by omega) (by omega)
    simp only [thenNx, w_consS, w_ret, w_and, w_cmp, w_call, w_cons, w_nil, w_var]
    simp
    refine haulAll_w P h29 h31 h33 ok pok e6 (by omega) hst fun m2 hm2 => ?_
    refine osat_of (eq_pos _) ?_
    simp [boolOf]
    refine total_w P h29 h31 h34 ok pok (hm2.get e6) (by omega) hst fun m3 hm3 => ?_
    simp [cmpV]
    exact h _ (g.trans g1 (hm2.trans hm3).gw) ((hm2.trans hm3).gw.row (g1.row hr))
end
end HR

set_option linter.all false
set_option maxRecDepth 100000
set_option maxHeartbeats 1000000
/-! HR, mirror 30: parts of the law k18. -/
namespace HR
open PySem
/-- a list comprehension while the store grows; what it makes may lie in the store -/
theorem lcM {Rl : Mem → Mem → Prop} (g : Grow Rl) {it : It} {turn : D → Mem → R (Option D)} {m : Mem} {Q : Unit → Mem → Prop} (xs : List D) (J : Nat → List D → Mem → Prop) (h1 : 1 ≤ m.length) (hl : xs.length ≤ 1000) (hit : ∀ i m1, Rl m m1 → it.nth i m1 = some xs[i]?) (j0 : J 0 [] (m ++ [.lst []]))
    (jset : ∀ i acc m1 o, J i acc m1 → J i acc (m1.set m.length o))
    (step : ∀ i x acc m1, xs[i]? = some x → J i acc m1 → Rl m m1 → m.length < m1.length → (turn x m1).wp fun o m' => Rl m1 m' ∧ match o with | none => J (i + 1) acc m' | some d => J (i + 1) (acc ++ [d]) m')
    (hend : ∀ acc m', J xs.length acc m' → Rl m m' → m'[m.length]? = some (.lst acc) → Q () m') : (lcLoop it turn m.length FU 0 (m ++ [.lst []])).wp Q := by
  refine wp_lc (fun i acc m1 => J i acc m1 ∧ acc.length ≤ i ∧ Rl m m1 ∧ m1[m.length]? = some (.lst acc)) xs ?_ ?_ ⟨j0, Nat.le_refl _, g.app m _, get0⟩ (fu_of (by omega)) ?_ ?_
  · rintro i acc m1 ⟨_, _, h, _⟩
    exact hit i m1 h
  · rintro i acc m1 ⟨_, _, _, h⟩
    exact h
  · rintro i acc m1 x hx ⟨j, hlen, h, e⟩
    have hlt := (List.getElem?_eq_some_iff.mp hx).1
    refine (step i x acc m1 hx j h (List.getElem?_eq_some_iff.mp e).1).mono fun o m' ⟨h2, j2⟩ => ?_
    have e2 := g.get h2 h1 e
    cases o with
    | none => exact ⟨j2, by omega, g.trans h h2, e2⟩
    | some d =>
      have hbig : big = 1000000 := rfl
      refine ⟨e2, by omega, jset _ _ _ _ j2, by simp; omega, g.put (g.trans h h2) (Nat.le_refl _), ?_⟩
      have := (List.getElem?_eq_some_iff.mp e2).1
      simp [List.getElem?_set_self this]
  · rintro acc m1 ⟨j, _, h, e⟩
    exact hend acc m1 j h e
theorem rng_get {n i : Nat} {x : D} (h : ((List.range n).map fun (j : Nat) => D.int (0 + j))[i]? = some x) : i < n ∧ x = .int (i : Nat) := by
  simp only [List.getElem?_map, Option.map_eq_some_iff] at h
  obtain ⟨j, hj, rfl⟩ := h
  have hi : i < n := by have := (List.getElem?_eq_some_iff.mp hj).1; simpa using this
  rw [List.getElem?_range hi] at hj
  cases hj
  exact ⟨hi, by simp⟩
section
variable {G : Prog}
theorem lens_w (P : Pk G) (h19 : G.fns 19 = some fn19) {n : Nat} {F : Fleet} {m : Mem} {Q : D → Mem → Prop} {a0 a1 a2 a4 a5 a6 a7 a8 a9 a10 a11 a13 a14 a15 a16 a17 a18 a19 : Option D} (ok : F.Ok) (hd : DiagOk F) (h1 : 1 ≤ m.length)
    (h : ∀ m' k rf, Pf m m' → LenAt m' k F.n (chainT F) rf → Q (.ref k) m') :
    (evE ⟨callN G (n + 5), G.meth, G.init⟩ (.lc [13] .rng [(.var 12)] (.name 13) [] (.lc [16] .rng [(.var 12)] (.name 16) [] (.call 19 [(.var 3), (.var 13), (.var 16)]))) [a0, a1, a2, some F.d, a4, a5, a6, a7, a8, a9, a10, a11, some (.int F.n), a13, a14, a15, a16, a17, a18, a19] m).wp Q := by
  have h8 := ok.n8
  have hlim : lim62 (F.n : Int) = true := by simp [lim62]; omega
  refine w_lc ?_
  simp [mkIt, hlim]
  refine lcM pfG ((List.range F.n).map fun (j : Nat) => D.int (0 + j)) (fun i acc m1 => ∃ rf : Nat → Nat, acc = (List.range i).map (fun j => .ref (rf j)) ∧ ∀ j < i, m.length < rf j ∧ m1[rf j]? = some (.lst ((List.range F.n).map fun q => optD (look (chainT F) (j, q))))) h1 (by simp; omega) (fun _ _ _ => nth_rng) ⟨fun _ => 0, rfl, fun j hj => absurd hj (Nat.not_lt_zero _)⟩ ?_ ?_ ?_
  · rintro i acc m1 o ⟨rf, e, hj⟩
    exact ⟨rf, e, fun j hji => ⟨(hj j hji).1, by rw [List.getElem?_set_ne (by have := (hj j hji).1; omega)]; exact (hj j hji).2⟩⟩
  · rintro i x acc m1 hx ⟨rf, rfl, hj⟩ hm1 hlt
    have hx2 := rng_get (n := F.n) (i := i) (x := x) hx
    have hi := hx2.1
    have hxe := hx2.2
    subst hxe
    refine w_turnL (by simp [wipeS]; rfl) ?_
    simp only [w_nil, condB, osat_some, if_true]
    with_reducible refine R.wp.mono (Q := fun d m3 => d = .ref m1.length ∧ Pf m1 m3 ∧ m3[m1.length]? = some (.lst ((List.range F.n).map fun q => optD (look (chainT F) (i, q))))) (w_lc ?_) ?_
    · simp [mkIt, hlim]
      refine lcG pfG ((List.range F.n).map fun (j : Nat) => D.int (0 + j)) (fun q acc => acc = (List.range q).map fun q => optD (look (chainT F) (i, q))) (by omega) (by simp; omega) (fun _ _ _ => nth_rng) rfl ?_ ?_
      · rintro q x acc m2 hx rfl hm2
        obtain ⟨hq, rfl⟩ := rng_get hx
        refine w_turnL (by simp [wipeS]; rfl) ?_
        simp [condB]
        refine chainlen_w P h19 ok hd hi hq fun m3 hm3 => ?_
        exact ⟨hm3, by simp [List.range_succ]⟩
      · rintro acc m2 rfl hm2 e2
        simp only [List.length_map, List.length_range] at e2
        simp [endIt]
        exact ⟨hm2, by simpa using e2⟩
    · rintro d m2 ⟨rfl, hm2, e2⟩
      refine ⟨hm2, fun j => if j = i then m1.length else rf j, ?_, fun j hji => ?_⟩
      · rw [List.range_succ, List.map_append]
        congr 1
        · apply List.map_congr_left
          intro j hj
          have := List.mem_range.mp hj
          have : ¬ j = i := by omega
          simp [this]
        · simp
      · by_cases hc : j = i
        · subst hc
          simp only [if_true]
          exact ⟨hlt, e2⟩
        · simp only [hc, if_false]
          have := hj j (by omega)
          exact ⟨this.1, hm2.get this.2⟩
  · rintro acc m1 ⟨rf, rfl, hj⟩ hm1 e1
    simp only [List.length_map, List.length_range] at e1 hj
    simp [endIt]
    exact h m1 m.length rf hm1 ⟨h1, e1, fun i hi => by have := (hj i hi).1; omega, fun i hi => (hj i hi).2⟩
/-- wishes between some numbers -/
structure WishIn (ws : List (Option Int)) (n : Nat) (lo hi : Int) : Prop where
  len : ws.length = n
  bt : ∀ w, some w ∈ ws → lo ≤ w ∧ w ≤ hi
theorem WishIn.ok {F : Fleet} {ws : List (Option Int)} {lo hi : Int} (h : WishIn ws F.n lo hi) (h1 : -9999 ≤ lo) (h2 : hi ≤ 9999) : WishOk F ws :=
  ⟨h.len, fun w hw => Int.le_trans h1 (h.bt w hw).1, fun w hw => Int.le_trans (h.bt w hw).2 h2⟩
theorem wishes_w (h280 : G.fns 280 = some fn280) {ns : List Int} {n : Nat} {c : Int} {p : List Int} {m : Mem} {Q : D → Mem → Prop} {a0 a2 a3 a4 a5 a6 a7 a8 a9 a10 a12 a13 a14 a15 a16 a17 a18 a19 : Option D} {lo hi : Int} (hr : RowAt ns m) (hl : p.length ≤ 8) (hb : Between p lo hi)
    (h : ∀ m' ws, Gw ns m m' → RowAt ns m' → WishIn ws p.length (lo - c) (hi + 59 - c) → Q (wishD ws) m') :
    (evE ⟨callN G (n + 1), G.meth, G.init⟩ (.lc [17] .any [(.var 11)] (.name 17) [] (.ite (.cmp .Eq (.call 280 [(.var 1), (.int 2)]) (.int 0)) .non (.bin .Sub (.bin .Add (.var 17) (.call 280 [(.var 1), (.int 60)])) (.int c)))) [a0, some (.ref 0), a2, a3, a4, a5, a6, a7, a8, a9, a10, some (posD p), a12, a13, a14, a15, a16, a17, a18, a19] m).wp fun d m1 => (bltV .tuple [d] m1).wp Q := by
  have g := gwG ns
  refine w_lc ?_
  simp [posD, mkIt, srcOf]
  refine lcG g (p.map D.int) (fun i acc => ∃ ws : List (Option Int), acc = ws.map optD ∧ WishIn ws i (lo - c) (hi + 59 - c)) (row_pos hr) (by simp; omega) (fun _ _ _ => by simp [It.nth, Src.all]) ⟨[], rfl, rfl, fun w hw => by cases hw⟩ ?_ ?_
  · rintro i x acc m1 hx ⟨ws, rfl, hw⟩ hm1
    simp only [List.getElem?_map, Option.map_eq_some_iff] at hx
    obtain ⟨v, hv, rfl⟩ := hx
    have hvb := hb v (List.mem_of_getElem? hv)
    refine w_turnL (by simp [wipeS]; rfl) ?_
    simp [condB]
    refine taken_w h280 (k := 2) (hm1.row hr) (by omega) (by omega) fun a m2 ha g2 hr2 => ?_
    simp [cmpV, boolOf]
    by_cases h0 : a = 0
    · subst h0
      simp
      exact ⟨g2, ws ++ [none], by simp [optD], by simp [hw.len], fun w hww => hw.bt w (by simpa using hww)⟩
    · have : ¬ (a : Int) = 0 := by omega
      simp [this, h0]
      refine taken_w h280 (k := 60) hr2 (by omega) (by omega) fun b m3 hb3 g3 hr3 => ?_
      simp [binAdd, binSub]
      refine ⟨g.trans g2 g3, ws ++ [some (v + b - c)], by simp [optD], by simp [hw.len], fun w hww => ?_⟩
      rcases List.mem_append.mp hww with z | z
      · exact hw.bt w z
      · simp at z; subst z; omega
  · rintro acc m1 ⟨ws, rfl, hw⟩ hm1 e1
    simp [endIt, bltV, e1]
    exact h m1 ws hm1 (hm1.row hr) (by simpa using hw)
end
end HR

set_option linter.all false
set_option maxRecDepth 100000
set_option maxHeartbeats 2000000
/-! HR, mirror 31: the law k18. -/
namespace HR
open PySem
theorem nth_zipF {xs ys : List D} {i : Nat} {m : Mem} : (It.zip (.fix xs) (.fix ys)).nth i m = some ((List.zipWith (fun a b => D.tup [a, b]) xs ys)[i]?) := by
  simp [It.nth, Src.all, List.getElem?_zipWith]
  cases xs[i]? <;> simp
  cases ys[i]? <;> simp
def max2T (a b : Int) : Int := if b > a then b else a
section
variable {G : Prog}
/-- the greater ones of two rows -/
theorem maxes_w {cx : Cx} {p q : List Int} {m : Mem} {Q : D → Mem → Prop} {a0 a1 a2 a3 a4 a5 a7 a8 a9 a10 a11 a12 a13 a15 a16 a17 a18 a19 : Option D} (h1 : 1 ≤ m.length) (hl : p.length ≤ 8) (hq : q.length = p.length) (h : ∀ m', Pf m m' → Q (posD (List.zipWith max2T p q)) m') :
    (evE cx (.lc [18, 19] .zip [(.var 6), (.var 14)] (.tup [(.name 18), (.name 19)]) [] (.blt .max2 [(.var 18), (.var 19)])) [a0, a1, a2, a3, a4, a5, some (posD p), a7, a8, a9, a10, a11, a12, a13, some (posD q), a15, a16, a17, a18, a19] m).wp fun d m1 => (bltV .tuple [d] m1).wp Q := by
  obtain ⟨Z, hZ⟩ : ∃ Z, Z = List.zipWith max2T p q := ⟨_, rfl⟩
  rw [← hZ] at h
  have hZl : Z.length = p.length := by simp [hZ, hq]
  refine w_lc ?_
  simp [posD, mkIt, srcOf]
  have hz : (List.zipWith (fun (a b : D) => D.tup [a, b]) (p.map D.int) (q.map D.int)).length = p.length := by simp [hq]
  refine lcG pfG (List.zipWith (fun (a b : D) => D.tup [a, b]) (p.map D.int) (q.map D.int)) (fun i acc => acc = (Z.take i).map .int) h1 (by rw [hz]; omega) (fun _ _ _ => nth_zipF) rfl ?_ ?_
  · rintro i x acc m1 hx rfl hm1
    have hlt := (List.getElem?_eq_some_iff.mp hx).1
    rw [hz] at hlt
    have e1 : p[i]? = some p[i] := List.getElem?_eq_getElem hlt
    have e2 : q[i]? = some q[i] := List.getElem?_eq_getElem (by omega)
    simp only [List.getElem?_zipWith, List.getElem?_map, e1, e2, Option.map_some] at hx
    have e3 : Z[i]? = some (max2T p[i] q[i]) := by simp [hZ, List.getElem?_zipWith, e1, e2]
    cases hx
    refine w_turnL (by simp [wipeS]; rfl) ?_
    simp [condB, bltV]
    refine ⟨Pf.refl _, ?_⟩
    rw [← List.map_take, ← List.map_take, take_snoc e3]
    simp [max2T]
  · rintro acc m1 rfl hm1 e1
    rw [hz] at e1
    rw [← hZl, List.take_length] at e1
    simp [endIt, bltV, e1]
    exact h m1 hm1
theorem dueAt_succ {T : Ents} {p : List Int} {ws : List (Option Int)} {k : Nat} {w : Int} (h : ws[k]? = some (some w)) (hc : atP p k < w) : dueAt T p ws (k + 1) = List.zipWith max2T (dueAt T p ws k) (dragP T p k w) := by
  rw [dueAt, h]
  simp only [hc, if_true]
  rfl
theorem dueAt_keep {T : Ents} {p : List Int} {ws : List (Option Int)} {k : Nat} (h : ∀ w, ws[k]? = some (some w) → ¬ atP p k < w) : dueAt T p ws (k + 1) = dueAt T p ws k := by
  rw [dueAt]
  split
  · rename_i w e
    rw [if_neg (h w e)]
  · rfl
/-- the least positions, as the law makes them -/
theorem due_loop (h281 : G.fns 281 = some fn281) {n k : Nat} {F : Fleet} {T : Ents} {rf : Nat → Nat} {p : List Int} {ws : List (Option Int)} {m : Mem} {Q : Fl → Sl → Mem → Prop} {ns : List Int} {a2 a7 a8 a9 a10 a13 a14 a15 a16 a17 a18 a19 : Option D} (h1 : 1 ≤ m.length) (h8 : F.n ≤ 8) (hp : p.length = F.n) (hw : ws.length = F.n) (l : LenAt m k F.n T rf)
    (h : ∀ m' b7 b14, Pf m m' → Q .nx [some (.scr ns), some (.ref 0), a2, some F.d, some (.ref k), some (wishD ws), some (posD (dueAt T p ws F.n)), b7, a8, a9, a10, some (posD p), some (.int F.n), a13, b14, a15, a16, a17, a18, a19] m') :
    (evS ⟨callN G (n + 1), G.meth, G.init⟩ (.forS .rng [(.var 12)] (.name 7) [(.ifS (.and (.cmp .IsNot (.idx (.var 5) (.var 7)) .non) (.cmp .Gt (.idx (.var 5) (.var 7)) (.idx (.var 11) (.var 7)))) [(.asg (.pat (.name 14)) (.call 281 [(.var 4), (.var 11), (.var 7), (.idx (.var 5) (.var 7))])), (.asg (.pat (.name 6)) (.blt .tuple [(.lc [18, 19] .zip [(.var 6), (.var 14)] (.tup [(.name 18), (.name 19)]) [] (.blt .max2 [(.var 18), (.var 19)]))]))] [])])
      [some (.scr ns), some (.ref 0), a2, some F.d, some (.ref k), some (wishD ws), some (posD p), a7, a8, a9, a10, some (posD p), some (.int F.n), a13, a14, a15, a16, a17, a18, a19] m).ws Q := by
  have hlim : lim62 (F.n : Int) = true := by simp [lim62]; omega
  refine w_forS ?_
  simp [mkIt, hlim, endIt]
  refine ws_for (fun i r m1 => Pf m m1 ∧ ∃ b7 b14, r = [some (.scr ns), some (.ref 0), a2, some F.d, some (.ref k), some (wishD ws), some (posD (dueAt T p ws i)), b7, a8, a9, a10, some (posD p), some (.int F.n), a13, b14, a15, a16, a17, a18, a19]) ((List.range F.n).map fun (j : Nat) => D.int (0 + j)) (fun _ _ _ _ => nth_rng)
    ⟨Pf.refl _, a7, a14, rfl⟩ (fu_of (by simp; omega)) ?_ ?_
  · rintro i r m1 x hx ⟨hm1, b7, b14, rfl⟩
    obtain ⟨hi, rfl⟩ := rng_get hx
    refine ⟨_, by simp; rfl, ?_⟩
    have i1 : ∀ m, idxV (posD p) (.int i) m = some (.int (atP p i)) := fun m => idxPos (by omega)
    cases hwi : ws[i]? with
    | none => have := List.getElem?_eq_none_iff.mp hwi; omega
    | some o =>
      have i2 : ∀ m, idxV (wishD ws) (.int i) m = some (optD o) := fun m => idxWish hwi
      cases o with
      | none =>
        simp [i2, cmpIsNot', optD, isNon, boolOf]
        exact ⟨hm1, (dueAt_keep fun w e => by rw [hwi] at e; cases e).symm ▸ rfl⟩
      | some w =>
        by_cases hc : atP p i < w
        · simp [i1, i2, cmpIsNot', optD, isNon, boolOf, cmpGt, hc]
          refine lawDrag_w (T := T) (rf := rf) h281 (by rw [hp]; exact l.grow pfG hm1) (by omega) (by omega) fun m2 hm2 => ?_
          have hdl := dueAt_len T p ws i
          refine maxes_w (p := dueAt T p ws i) (q := dragP T p i w) (by have := hm1.len; have := hm2.len; omega) (by omega) (by rw [dragP_len, hdl]) fun m3 hm3 => ?_
          exact ⟨(hm1.trans hm2).trans hm3, by rw [dueAt_succ hwi hc]⟩
        · simp [i1, i2, cmpIsNot', optD, isNon, boolOf, cmpGt, hc]
          exact ⟨hm1, (dueAt_keep fun w e => by rw [hwi] at e; cases e; exact hc).symm ▸ rfl⟩
  · rintro r m1 ⟨hm1, b7, b14, rfl⟩
    simp only [List.length_map, List.length_range]
    exact h m1 b7 b14 hm1
end
end HR

set_option linter.all false
set_option maxRecDepth 100000
set_option maxHeartbeats 1000000
/-! HR, mirror 33: the mathematics of fleets compared: chains are least. -/
namespace HR
open PySem
/-- T1 has all chains of T, at most as long -/
def Dom (T1 T : Ents) : Prop := ∀ q l, look T q = some l → ∃ l1, look T1 q = some l1 ∧ l1 ≤ l
theorem offers_dom {T1 : Ents} : ∀ {os T : Ents}, (∀ o ∈ os, ∃ l1, look T1 o.1 = some l1 ∧ l1 ≤ o.2) → Dom T1 T → Dom T1 (offersT os T) := fun {os T} ho h q l hq => by
  rcases offers_from hq with z | z
  · exact h q l z
  · exact ho _ z
theorem ext_dom {T1 T : Ents} {m : Nat} (nd : (T.map (·.1)).Nodup) (tri : ∀ i j k a b, look T1 (i, j) = some a → look T1 (j, k) = some b → ∃ c, look T1 (i, k) = some c ∧ c ≤ a + b) (h : Dom T1 T) : Dom T1 (extendT T m) := fun q l hq => by
  obtain ⟨i, j⟩ := q
  rcases ext_from nd hq with z | ⟨a, b, h1, h2, rfl⟩
  · exact h _ _ z
  · obtain ⟨a1, g1, l1⟩ := h _ _ h1
    obtain ⟨b1, g2, l2⟩ := h _ _ h2
    obtain ⟨c, g3, l3⟩ := tri _ _ _ _ _ g1 g2
    exact ⟨c, g3, by omega⟩
theorem steps_dom {T1 : Ents} {n : Nat} (tri : ∀ i j k a b, look T1 (i, j) = some a → look T1 (j, k) = some b → ∃ c, look T1 (i, k) = some c ∧ c ≤ a + b) : ∀ (ms : List Nat) {T : Ents}, Tw n T → Dom T1 T → Dom T1 (stepsT ms T)
  | [], T, _, h => h
  | m :: ms, T, w, h => steps_dom tri ms (w.extend m) (ext_dom w.nd tri h)
/-- a rope follows from a fleet -/
def Imp (F : Fleet) (x : Rope) : Prop := ∃ d, look (chainT F) (x.1, x.2.1) = some d ∧ d ≤ x.2.2
section
variable {F F2 : Fleet}
/-- a fleet whose ropes all follow from another has no shorter chains -/
theorem chain_dom (ok : F.Ok) {π : Nat → Int} (v : Valid F π) (ok2 : F2.Ok) (hn : F2.n = F.n) (h : ∀ x ∈ F2.rs, Imp F x) : Dom (chainT F) (chainT F2) := by
  refine steps_dom (n := F2.n) (fun i j k a b h1 h2 => chain_tri ok v h1 h2) _ (ropes_w ok2.rp (diag_w F2.n)) ?_
  rw [ropes_offers]
  refine offers_dom (fun o ho => ?_) fun q l hq => ?_
  · obtain ⟨x, hx, rfl⟩ := List.mem_map.mp ho
    exact h x hx
  · obtain ⟨h1, h2, h3⟩ := diag_look.mp hq
    obtain ⟨i, j⟩ := q
    have h2 : i = j := h2
    subst h2 h3
    exact ⟨0, chain_diag ok v (by rw [← hn]; exact h1), Int.le_refl _⟩
theorem chain_eq (ok : F.Ok) {π : Nat → Int} (v : Valid F π) (ok2 : F2.Ok) {π2 : Nat → Int} (v2 : Valid F2 π2) (hn : F2.n = F.n) (h : ∀ x ∈ F2.rs, Imp F x) (h2 : ∀ x ∈ F.rs, Imp F2 x) (q : Nat × Nat) : look (chainT F) q = look (chainT F2) q := by
  have d1 := chain_dom ok v ok2 hn h
  have d2 := chain_dom ok2 v2 ok hn.symm h2
  cases e : look (chainT F) q with
  | none =>
    cases e2 : look (chainT F2) q with
    | none => rfl
    | some l =>
      obtain ⟨l1, h1, _⟩ := d1 q l e2
      rw [e] at h1; cases h1
  | some l =>
    obtain ⟨l2, h3, h4⟩ := d2 q l e
    obtain ⟨l3, h5, h6⟩ := d1 q l2 h3
    rw [e] at h5; cases h5
    rw [h3]
    congr 1
    omega
theorem imp_of {x : Rope} (hx : x ∈ F.rs) : Imp F x := chain_rope hx
theorem imp_mono (ok : F.Ok) {π : Nat → Int} (v : Valid F π) (ok2 : F2.Ok) (hn : F2.n = F.n) (h : ∀ x ∈ F2.rs, Imp F x) {x : Rope} (hx : Imp F2 x) : Imp F x := by
  obtain ⟨d, h1, h2⟩ := hx
  obtain ⟨l, h3, h4⟩ := chain_dom ok v ok2 hn h _ _ h1
  exact ⟨l, h3, by omega⟩
theorem imp_valid (ok : F.Ok) {π : Nat → Int} (v : Valid F π) {x : Rope} (h : Imp F x) : π x.1 - π x.2.1 ≤ x.2.2 := by
  obtain ⟨d, h1, h2⟩ := h
  have := chain_sound ok v _ _ _ h1
  omega
theorem valid_of (ok : F.Ok) {π : Nat → Int} (v : Valid F π) (h : ∀ x ∈ F2.rs, Imp F x) : Valid F2 π := fun x hx => imp_valid ok v (h x hx)
noncomputable instance (F : Fleet) (x : Rope) : Decidable (Imp F x) := Classical.propDecidable _
/-- the ropes that stay, from the last one to the first one -/
noncomputable def redS (n : Nat) (rs : List Rope) : Nat → List Rope → List Rope
  | 0, S => S
  | k + 1, S => match rs[k]? with
    | some x => if Imp ⟨n, rs.take k ++ S⟩ x then redS n rs k S else redS n rs k (x :: S)
    | none => redS n rs k S
/-- what holds of the ropes that stay so far -/
structure RedOk (n : Nat) (rs : List Rope) (k : Nat) (S : List Rope) : Prop where
  sub : S.Sublist (rs.drop k)
  imp : ∀ x ∈ rs, Imp ⟨n, rs.take k ++ S⟩ x
  non : ∀ (p : Nat) (x : Rope), S[p]? = some x → ¬ Imp ⟨n, rs.take k ++ S.eraseIdx p⟩ x
theorem Fleet.Ok.part (ok : F.Ok) {rs : List Rope} (h : rs.Sublist F.rs) : Fleet.Ok ⟨F.n, rs⟩ :=
  ⟨ok.n1, ok.n8, Nat.le_trans h.length_le ok.len, fun x hx => ok.rp x (h.subset hx)⟩
theorem Valid.part {π : Nat → Int} (v : Valid F π) {rs : List Rope} (h : rs.Sublist F.rs) : Valid ⟨F.n, rs⟩ π := fun x hx => v x (h.subset hx)
theorem sub_take {rs S : List Rope} {k : Nat} (h : S.Sublist (rs.drop k)) : (rs.take k ++ S).Sublist rs := by
  have := (List.Sublist.refl (rs.take k)).append h
  rwa [List.take_append_drop] at this
theorem drop_cons {rs : List Rope} {k : Nat} {x : Rope} (h : rs[k]? = some x) : rs.drop k = x :: rs.drop (k + 1) := by
  obtain ⟨hlt, e⟩ := List.getElem?_eq_some_iff.mp h
  rw [List.drop_eq_getElem_cons hlt, e]
theorem red_step (ok : F.Ok) {π : Nat → Int} (v : Valid F π) {k : Nat} {S : List Rope} {x : Rope} (hx : F.rs[k]? = some x) (r : RedOk F.n F.rs (k + 1) S) :
    (Imp ⟨F.n, F.rs.take k ++ S⟩ x → RedOk F.n F.rs k S) ∧ (¬ Imp ⟨F.n, F.rs.take k ++ S⟩ x → RedOk F.n F.rs k (x :: S)) := by
  have hd := drop_cons hx
  have ht : F.rs.take (k + 1) = F.rs.take k ++ [x] := take_snoc hx
  have s1 : S.Sublist (F.rs.drop k) := by rw [hd]; exact r.sub.cons x
  have okS := ok.part (sub_take s1)
  have vS := v.part (sub_take s1)
  have okS1 := ok.part (sub_take r.sub)
  have vS1 := v.part (sub_take r.sub)
  refine ⟨fun hi => ⟨s1, fun y hy => ?_, fun p y hp hi2 => ?_⟩, fun hi => ⟨by rw [hd]; exact r.sub.cons_cons x, fun y hy => ?_, fun p y hp => ?_⟩⟩
  · refine imp_mono (F2 := ⟨F.n, F.rs.take (k + 1) ++ S⟩) okS vS okS1 rfl (fun z hz => ?_) (r.imp y hy)
    rw [ht] at hz
    simp only [List.mem_append, List.mem_singleton] at hz
    rcases hz with (hz | hz) | hz
    · exact imp_of (List.mem_append_left _ hz)
    · subst hz; exact hi
    · exact imp_of (List.mem_append_right _ hz)
  · have sE : (S.eraseIdx p).Sublist (F.rs.drop (k + 1)) := (List.eraseIdx_sublist S p).trans r.sub
    have sE0 : (S.eraseIdx p).Sublist (F.rs.drop k) := (List.eraseIdx_sublist S p).trans s1
    refine r.non p y hp (imp_mono (F := ⟨F.n, F.rs.take (k + 1) ++ S.eraseIdx p⟩) (F2 := ⟨F.n, F.rs.take k ++ S.eraseIdx p⟩) (ok.part (sub_take sE)) (v.part (sub_take sE)) (ok.part (sub_take sE0)) rfl (fun z hz => ?_) hi2)
    refine imp_of ?_
    rw [ht]
    simp only [List.mem_append] at hz ⊢
    rcases hz with hz | hz
    · exact .inl (.inl hz)
    · exact .inr hz
  · have e : F.rs.take (k + 1) ++ S = F.rs.take k ++ x :: S := by rw [ht, List.append_assoc]; rfl
    rw [← e]
    exact r.imp y hy
  · cases p with
    | zero =>
      simp only [List.getElem?_cons_zero, Option.some.injEq] at hp
      subst hp
      exact hi
    | succ p =>
      have e : F.rs.take (k + 1) ++ S.eraseIdx p = F.rs.take k ++ (x :: S).eraseIdx (p + 1) := by rw [ht, List.append_assoc]; rfl
      rw [← e]
      exact r.non p y (by simpa using hp)
theorem red_ok (ok : F.Ok) {π : Nat → Int} (v : Valid F π) : ∀ (k : Nat) (S : List Rope), k ≤ F.rs.length → RedOk F.n F.rs k S → RedOk F.n F.rs 0 (redS F.n F.rs k S)
  | 0, S, _, r => r
  | k + 1, S, hk, r => by
    have hx : F.rs[k]? = some F.rs[k] := List.getElem?_eq_getElem (by omega)
    obtain ⟨h1, h2⟩ := red_step ok v hx r
    unfold redS
    rw [hx]
    simp only
    split
    · rename_i hi
      exact red_ok ok v k S (by omega) (h1 hi)
    · rename_i hi
      exact red_ok ok v k _ (by omega) (h2 hi)
theorem red_start : RedOk F.n F.rs F.rs.length [] := by
  refine ⟨List.nil_sublist _, fun x hx => ?_, fun p x hp => by simp at hp⟩
  rw [List.take_length, List.append_nil]
  exact imp_of (F := ⟨F.n, F.rs⟩) hx
noncomputable def redF (F : Fleet) : Fleet := ⟨F.n, redS F.n F.rs F.rs.length []⟩
theorem redF_ok (ok : F.Ok) {π : Nat → Int} (v : Valid F π) : RedOk F.n F.rs 0 (redF F).rs := red_ok ok v _ _ (Nat.le_refl _) red_start
end
end HR

set_option linter.all false
set_option maxRecDepth 100000
set_option maxHeartbeats 1000000
/-! HR, mirror 34: ropes that follow. -/
namespace HR
open PySem
theorem sIx_nat (n d i : Nat) : _root_.HT.sIx n d (some (i : Int)) = min i n := by
  unfold _root_.HT.sIx
  have : ¬ (i : Int) < 0 := by omega
  simp [this]
  try omega
theorem cut_take {α : Type} (xs : List α) (i : Nat) : cut xs none (some (i : Int)) = xs.take i := by
  unfold cut
  rw [sIx_nat]
  have : _root_.HT.sIx xs.length 0 none = 0 := rfl
  rw [this]
  simp [List.take_eq_take_iff]
theorem cut_drop {α : Type} (xs : List α) (i : Nat) : cut xs (some (i : Int)) none = xs.drop i := by
  unfold cut
  rw [sIx_nat]
  have : _root_.HT.sIx xs.length xs.length none = xs.length := rfl
  rw [this]
  by_cases h : i ≤ xs.length
  · rw [Nat.min_eq_left h]
    exact List.take_of_length_le (by simp)
  · rw [Nat.min_eq_right (by omega), List.drop_length, List.drop_of_length_le (by omega)]
    simp
theorem cut_drop1 {α : Type} (xs : List α) (i : Nat) : cut xs (some ((i : Int) + 1)) none = xs.drop (i + 1) := by
  have := cut_drop xs (i + 1)
  simpa using this
def impB (T : Ents) (x : Rope) : Bool := match look T (x.1, x.2.1) with
  | some d => decide (d ≤ x.2.2)
  | none => false
/-- the first ropes follow -/
def FstImp (T : Ents) (rs : List Rope) (i : Nat) : Prop := ∀ j < i, ∀ x, rs[j]? = some x → impB T x = true
theorem impB_iff {F : Fleet} {x : Rope} : impB (chainT F) x = true ↔ Imp F x := by
  unfold impB Imp
  cases look (chainT F) (x.1, x.2.1) with
  | none => simp
  | some d => simp
theorem impB_eq {F : Fleet} {x : Rope} : impB (chainT F) x = decide (Imp F x) := by
  rw [Bool.eq_iff_iff, impB_iff]
  simp
def Fleet.wo (F : Fleet) (i : Nat) : Fleet := ⟨F.n, F.rs.eraseIdx i⟩
theorem Fleet.Ok.wo {F : Fleet} (ok : F.Ok) (i : Nat) : (F.wo i).Ok := ok.part (List.eraseIdx_sublist _ _)
theorem dI0 (F : Fleet) (m : Mem) : idxV F.d (.int 0) m = some (.int F.n) := rfl
theorem dI1 (F : Fleet) (m : Mem) : idxV F.d (.int 1) m = some (.tup (F.rs.map ropeD)) := rfl
theorem nth_rngD {hi : Int} {n i : Nat} {m : Mem} : (It.rngD hi n).nth i m = some (((List.range n).map fun (j : Nat) => D.int (hi - j))[i]?) := by
  simp only [It.nth]
  by_cases h : i < n
  · simp [h, List.getElem?_map, List.getElem?_range h]
  · simp [h]
section
variable {G : Prog}
theorem implies_w (P : Pk G) (h50 : G.fns 50 = some fn50) {n o kd : Nat} {F : Fleet} {T : Ents} {x : Rope} {m : Mem} {Q : D → Mem → Prop} (t : TabAt m o kd F T false) (h : Q (.bl (impB T x)) m) : (callN G (n + 2) 50 [.ref o, ropeD x] m).wp Q := by
  refine wp_call h50 rfl ?_
  simp [fn50, startS, ropeD]
  refine w_meth ?_
  simp [clsOf, t.ob, P.m3]
  refine len_w P t ?_
  unfold impB at h
  cases hl : look T (x.1, x.2.1) with
  | none =>
    rw [hl] at h
    simpa [optD, cmpV, isNon, boolOf] using h
  | some d =>
    rw [hl] at h
    simpa [optD, cmpV, isNon, boolOf] using h
theorem chk_rope (P : Pk G) (h12 : G.fns 12 = some fn12) {n : Nat} {F : Fleet} {x : Rope} {m : Mem} {Q : D → Mem → Prop} (ok : RopeOk F.n x) (h : Q .non m) : (callN G (n + 3) 12 [F.d, ropeD x] m).wp Q := by
  refine wp_call h12 rfl ?_
  simp [fn12, startS, dI0]
  refine is_rope P ok ?_
  simpa [boolOf] using h
theorem implied_w (P : Pk G) (h12 : G.fns 12 = some fn12) (h50 : G.fns 50 = some fn50) (h51 : G.fns 51 = some fn51) {n : Nat} {F : Fleet} {x : Rope} {m : Mem} {Q : D → Mem → Prop} (ok : F.Ok) (hd : DiagOk F) (okx : RopeOk F.n x)
    (h : ∀ m', Pf m m' → Q (.bl (impB (chainT F) x)) m') : (callN G (n + 5) 51 [F.d, ropeD x] m).wp Q := by
  refine wp_call h51 rfl ?_
  simp [fn51, startS]
  refine chk_fleet P ok ?_
  refine chk_rope P h12 okx ?_
  refine cons_tab P ok hd fun m' o kd hpf t => ?_
  exact implies_w P h50 t (h m' hpf)
theorem without_w (h52 : G.fns 52 = some fn52) {n : Nat} {F : Fleet} {i : Nat} {m : Mem} {Q : D → Mem → Prop} (hl : F.rs.length ≤ 1000) (h : Q (F.wo i).d m) : (callN G (n + 1) 52 [F.d, .int i] m).wp Q := by
  refine wp_call h52 rfl ?_
  have hbig : big = 1000000 := rfl
  have hz : ((F.rs.map ropeD).take i).length + ((F.rs.map ropeD).drop (i + 1)).length ≤ big := by simp; omega
  have e2 : (F.rs.map ropeD).take i ++ (F.rs.map ropeD).drop (i + 1) = ((F.rs.eraseIdx i).map ropeD) := by
    rw [List.eraseIdx_eq_take_drop_succ, List.map_append, List.map_take, List.map_drop]
  simp only [fn52, startS, Fleet.d, w_consS, w_asg, w_ret, w_tup, w_cons, w_nil, w_bin, w_slc, w_var]
  simp [slcV, optI, binAdd, cut_take, cut_drop1, two_big, -List.map_take, -List.map_drop]
  simp only [binV, hz, if_true, wpOk, e2, two_big, true_and]
  exact h
theorem missing_w (P : Pk G) (h50 : G.fns 50 = some fn50) (h84 : G.fns 84 = some fn84) (h85 : G.fns 85 = some fn85) {n : Nat} {F F2 : Fleet} {m : Mem} {Q : D → Mem → Prop} (ok : F.Ok) (hd : DiagOk F) (ok2 : F2.Ok) (hn : F2.n = F.n)
    (h : ∀ m', Pf m m' → Q (match F2.rs.findIdx? (fun x => !impB (chainT F) x) with | none => .non | some i => .int i) m') : (callN G (n + 6) 85 [F.d, F2.d] m).wp Q := by
  refine wp_call h85 rfl ?_
  simp [fn85, startS]
  refine wp_call h84 rfl ?_
  simp [fn84, startS]
  refine chk_fleet P ok ?_
  refine chk_fleet P ok2 ?_
  simp [dI0, cmpNe, hn, boolOf]
  refine cons_tab P ok hd fun m' o kd hpf t => ?_
  have h8 := ok2.len
  refine w_forS ?_
  simp [dI1, mkIt, srcOf, endIt]
  refine ws_for (fun i r m1 => m1 = m' ∧ FstImp (chainT F) F2.rs i ∧ ∃ a b, r = [some F.d, some F2.d, some (.ref o), a, b]) ((F2.rs.map ropeD).zipIdx.map fun p => D.tup [.int p.2, p.1]) (fun _ _ _ _ => nth_en) ⟨rfl, fun j hj => absurd hj (Nat.not_lt_zero _), none, none, rfl⟩ (fu_of (by simp; omega)) ?_ ?_
  · rintro i r m1 x hx ⟨rfl, hj, a, b, rfl⟩
    obtain ⟨y, hy, rfl⟩ := en_get hx
    simp only [List.getElem?_map, Option.map_eq_some_iff] at hy
    obtain ⟨x, hx0, rfl⟩ := hy
    refine ⟨_, by simp; rfl, ?_⟩
    simp
    refine implies_w P h50 t ?_
    have hi := (List.getElem?_eq_some_iff.mp hx0).1
    cases hb : impB (chainT F) x with
    | true =>
      simp [boolOf]
      intro j hji y hy
      by_cases hc : j = i
      · subst hc
        rw [hx0] at hy; cases hy
        exact hb
      · exact hj j (by omega) y hy
    | false =>
      simp [boolOf]
      have := h m1 hpf
      have hf : F2.rs.findIdx? (fun x => !impB (chainT F) x) = some i := by
        rw [List.findIdx?_eq_some_iff_getElem]
        refine ⟨hi, ?_, fun j hji => ?_⟩
        · have e := (List.getElem?_eq_some_iff.mp hx0).2
          rw [e, hb]; rfl
        · have := hj j hji _ (List.getElem?_eq_getElem (by omega))
          rw [this]
          simp
      rw [hf] at this
      exact this
  · rintro r m1 ⟨rfl, hj, a, b, rfl⟩
    have := h m1 hpf
    have hf : F2.rs.findIdx? (fun x => !impB (chainT F) x) = none := by
      rw [List.findIdx?_eq_none_iff]
      intro x hx
      obtain ⟨i, hi⟩ := List.mem_iff_getElem?.mp hx
      have hlt := (List.getElem?_eq_some_iff.mp hi).1
      simp [hj i (by simpa using hlt) x hi]
    rw [hf] at this
    simpa using this
end
end HR

set_option linter.all false
set_option maxRecDepth 100000
set_option maxHeartbeats 1000000
/-! HR, mirror 46: the mathematics of circles. -/
namespace HR
open PySem
/-- for each barge the least total so far, and the ropes of its chain -/
abbrev Best := List (Int × List Nat)
def bAt (B : Best) (i : Nat) : Int × List Nat := B.getD i (0, [])
def rp (rs : List Rope) (k : Nat) : Rope := rs.getD k (0, 0, 0)
def best0 (n : Nat) : Best := List.replicate n (0, [])
def rlx (B L : Best) (k : Nat) (x : Rope) : Best := if (bAt B x.1).1 + x.2.2 < (bAt L x.2.1).1 then L.set x.2.1 ((bAt B x.1).1 + x.2.2, (bAt B x.1).2 ++ [k]) else L
def relaxN (rs : List Rope) (B : Best) : Nat → Best
  | 0 => B
  | k + 1 => rlx B (relaxN rs B k) k (rp rs k)
def bestN (F : Fleet) : Nat → Best
  | 0 => best0 F.n
  | t + 1 => relaxN F.rs (bestN F t) F.rs.length
theorem rp_get {rs : List Rope} {k : Nat} {x : Rope} (h : rs[k]? = some x) : rp rs k = x := by simp [rp, List.getD, h]
theorem rp_mem {rs : List Rope} {k : Nat} (h : k < rs.length) : rp rs k ∈ rs := by
  rw [rp_get (List.getElem?_eq_getElem h)]
  exact List.getElem_mem h
theorem rlx_len {B L : Best} {k : Nat} {x : Rope} : (rlx B L k x).length = L.length := by
  unfold rlx; split <;> simp
theorem relaxN_len {rs : List Rope} {B : Best} : ∀ k, (relaxN rs B k).length = B.length
  | 0 => rfl
  | k + 1 => by rw [relaxN, rlx_len, relaxN_len k]
theorem bestN_len (F : Fleet) : ∀ t, (bestN F t).length = F.n
  | 0 => by simp [bestN, best0]
  | t + 1 => by rw [bestN, relaxN_len, bestN_len F t]
theorem bAt_set {L : Best} {i j : Nat} {y : Int × List Nat} (h : i < L.length) : bAt (L.set i y) j = if j = i then y else bAt L j := by
  unfold bAt List.getD
  by_cases e : j = i
  · subst e
    simp [List.getElem?_set_self h]
  · simp [e, List.getElem?_set_ne (fun z => e z.symm)]
/-- what a round makes of a barge -/
theorem relaxN_at {F : Fleet} (ok : F.Ok) {B : Best} (hB : B.length = F.n) : ∀ k, k ≤ F.rs.length → ∀ v,
    (bAt (relaxN F.rs B k) v).1 ≤ (bAt B v).1 ∧ (∀ j < k, (rp F.rs j).2.1 = v → (bAt (relaxN F.rs B k) v).1 ≤ (bAt B (rp F.rs j).1).1 + (rp F.rs j).2.2) ∧
    (bAt (relaxN F.rs B k) v = bAt B v ∨ ∃ j < k, (rp F.rs j).2.1 = v ∧ bAt (relaxN F.rs B k) v = ((bAt B (rp F.rs j).1).1 + (rp F.rs j).2.2, (bAt B (rp F.rs j).1).2 ++ [j]) ∧ (bAt (relaxN F.rs B k) v).1 < (bAt B v).1)
  | 0, _, v => ⟨Int.le_refl _, fun j hj => absurd hj (Nat.not_lt_zero _), .inl rfl⟩
  | k + 1, hk, v => by
    obtain ⟨h1, h2, h3⟩ := relaxN_at ok hB k (by omega) v
    have okx := ok.rp _ (rp_mem (rs := F.rs) (k := k) (by omega))
    have hr : (rp F.rs k).2.1 < (relaxN F.rs B k).length := by rw [relaxN_len, hB]; exact okx.r
    obtain ⟨L, hL⟩ : ∃ L, L = relaxN F.rs B k := ⟨_, rfl⟩
    obtain ⟨x, hx⟩ : ∃ x, x = rp F.rs k := ⟨_, rfl⟩
    have e : relaxN F.rs B (k + 1) = rlx B L k x := by rw [relaxN, hL, hx]
    rw [← hL] at h1 h2 h3 hr
    rw [← hx] at hr
    rw [e]
    unfold rlx
    by_cases hc : (bAt B x.1).1 + x.2.2 < (bAt L x.2.1).1
    · rw [if_pos hc, bAt_set hr]
      by_cases hv : v = x.2.1
      · subst hv
        simp only [if_true]
        refine ⟨by omega, fun j hj hje => ?_, .inr ⟨k, by omega, by rw [← hx], by rw [← hx], by omega⟩⟩
        by_cases hjk : j = k
        · subst hjk; rw [← hx]; exact Int.le_refl _
        · have := h2 j (by omega) hje
          omega
      · simp only [hv, if_false]
        refine ⟨h1, fun j hj hje => ?_, ?_⟩
        · by_cases hjk : j = k
          · subst hjk; rw [← hx] at hje; exact absurd hje.symm hv
          · exact h2 j (by omega) hje
        · rcases h3 with h3 | ⟨j, hj, h4⟩
          · exact .inl h3
          · exact .inr ⟨j, by omega, h4⟩
    · rw [if_neg hc]
      refine ⟨h1, fun j hj hje => ?_, ?_⟩
      · by_cases hjk : j = k
        · subst hjk
          rw [← hx] at hje ⊢
          subst hje
          omega
        · exact h2 j (by omega) hje
      · rcases h3 with h3 | ⟨j, hj, h4⟩
        · exact .inl h3
        · exact .inr ⟨j, by omega, h4⟩
section
variable {F : Fleet}
theorem best_step (ok : F.Ok) (t v : Nat) : (bAt (bestN F (t + 1)) v).1 ≤ (bAt (bestN F t) v).1 ∧ (∀ j < F.rs.length, (rp F.rs j).2.1 = v → (bAt (bestN F (t + 1)) v).1 ≤ (bAt (bestN F t) (rp F.rs j).1).1 + (rp F.rs j).2.2) ∧
    (bAt (bestN F (t + 1)) v = bAt (bestN F t) v ∨ ∃ j < F.rs.length, (rp F.rs j).2.1 = v ∧ bAt (bestN F (t + 1)) v = ((bAt (bestN F t) (rp F.rs j).1).1 + (rp F.rs j).2.2, (bAt (bestN F t) (rp F.rs j).1).2 ++ [j]) ∧ (bAt (bestN F (t + 1)) v).1 < (bAt (bestN F t) v).1) :=
  relaxN_at ok (bestN_len F t) _ (Nat.le_refl _) v
theorem best_mono (ok : F.Ok) {s t v : Nat} (h : s ≤ t) : (bAt (bestN F t) v).1 ≤ (bAt (bestN F s) v).1 := by
  induction t with
  | zero =>
    have : s = 0 := by omega
    subst this
    exact Int.le_refl _
  | succ t ih =>
    by_cases e : s = t + 1
    · subst e; exact Int.le_refl _
    · have := (best_step ok t v).1
      have := ih (by omega)
      omega
/-- the sum of some ropes' lengths -/
def lenS (rs : List Rope) (c : List Nat) : Int := (c.map fun k => (rp rs k).2.2).sum
theorem lenS_app (rs : List Rope) (a b : List Nat) : lenS rs (a ++ b) = lenS rs a + lenS rs b := by simp [lenS]
/-- a chain of ropes -/
structure Walk (rs : List Rope) (c : List Nat) : Prop where
  ix : ∀ k ∈ c, k < rs.length
  adj : ∀ j, j + 1 < c.length → (rp rs (c.getD j 0)).2.1 = (rp rs (c.getD (j + 1) 0)).1
theorem getD_app {c : List Nat} {k j : Nat} (h : j < c.length) : (c ++ [k]).getD j 0 = c.getD j 0 := by
  simp [List.getD, List.getElem?_append_left h]
theorem getD_new {c : List Nat} {k : Nat} : (c ++ [k]).getD c.length 0 = k := by simp [List.getD]
theorem best_walk (ok : F.Ok) : ∀ t v, Walk F.rs (bAt (bestN F t) v).2 ∧ (bAt (bestN F t) v).2.length ≤ t ∧ (∀ j, j + 1 = (bAt (bestN F t) v).2.length → (rp F.rs ((bAt (bestN F t) v).2.getD j 0)).2.1 = v) ∧ lenS F.rs (bAt (bestN F t) v).2 = (bAt (bestN F t) v).1
  | 0, v => by
    have e : bAt (bestN F 0) v = (0, []) := by
      simp only [bAt, bestN, best0, List.getD, List.getElem?_replicate]
      split <;> rfl
    rw [e]
    exact ⟨⟨fun k h => absurd h List.not_mem_nil, fun j h => absurd h (Nat.not_lt_zero _)⟩, Nat.le_refl _, fun j h => absurd h (Nat.succ_ne_zero _), rfl⟩
  | t + 1, v => by
    rcases (best_step ok t v).2.2 with h | ⟨j, hj, hv, h, _⟩
    · rw [h]
      obtain ⟨a, b, c, d⟩ := best_walk ok t v
      exact ⟨a, by omega, c, d⟩
    · rw [h]
      obtain ⟨a, b, c, d⟩ := best_walk ok t (rp F.rs j).1
      obtain ⟨C, hC⟩ : ∃ C, C = (bAt (bestN F t) (rp F.rs j).1).2 := ⟨_, rfl⟩
      simp only
      rw [← hC] at a b c d ⊢
      refine ⟨⟨fun k hk => ?_, fun i hi => ?_⟩, by simp; omega, fun i hi => ?_, ?_⟩
      · rcases List.mem_append.mp hk with hk | hk
        · exact a.ix k hk
        · simp at hk; subst hk; exact hj
      · have hi : i + 1 < C.length + 1 := by simpa using hi
        rw [getD_app (by omega)]
        by_cases e : i + 1 = C.length
        · have h2 := c i e
          rw [h2, e, getD_new]
        · rw [getD_app (by omega)]
          exact a.adj i (by omega)
      · have : i = C.length := by simpa using hi
        subst this
        rw [getD_new, hv]
      · rw [lenS_app, d]
        simp [lenS]
/-- the barges on the way of a chain that was found in the last round -/
theorem best_trace (ok : F.Ok) : ∀ t v, v < F.n → (t = 0 ∨ (bAt (bestN F t) v).1 < (bAt (bestN F (t - 1)) v).1) → ∃ us : List Nat, us.length = t + 1 ∧ us.getD t 0 = v ∧ (∀ u ∈ us, u < F.n) ∧ (bAt (bestN F t) v).2.length = t ∧
    (∀ j ≤ t, bAt (bestN F j) (us.getD j 0) = (lenS F.rs ((bAt (bestN F t) v).2.take j), (bAt (bestN F t) v).2.take j)) ∧ (∀ j, 1 ≤ j → j ≤ t → (bAt (bestN F j) (us.getD j 0)).1 < (bAt (bestN F (j - 1)) (us.getD j 0)).1) ∧
    (∀ j < t, (rp F.rs ((bAt (bestN F t) v).2.getD j 0)).1 = us.getD j 0)
  | 0, v, hv, _ => by
    have e : bAt (bestN F 0) v = (0, []) := by
      simp only [bAt, bestN, best0, List.getD, List.getElem?_replicate]
      split <;> rfl
    refine ⟨[v], rfl, rfl, fun u hu => by simp at hu; subst hu; exact hv, by rw [e]; rfl, fun j hj => ?_, fun j h1 h2 => absurd h1 (by omega), fun j hj => absurd hj (Nat.not_lt_zero _)⟩
    have : j = 0 := by omega
    subst this
    show bAt (bestN F 0) v = _
    rw [e]
    rfl
  | t + 1, v, hv, h => by
    have h : (bAt (bestN F (t + 1)) v).1 < (bAt (bestN F t) v).1 := by
      rcases h with h | h
      · omega
      · exact h
    rcases (best_step ok t v).2.2 with z | ⟨j, hj, hjv, e, _⟩
    · rw [z] at h; omega
    · have okx := ok.rp _ (rp_mem hj)
      obtain ⟨f, hf⟩ : ∃ f, f = (rp F.rs j).1 := ⟨_, rfl⟩
      have hfn : f < F.n := by rw [hf]; exact okx.f
      rw [← hf] at e
      have hfi : t = 0 ∨ (bAt (bestN F t) f).1 < (bAt (bestN F (t - 1)) f).1 := by
        by_cases ht : t = 0
        · exact .inl ht
        · refine .inr ?_
          obtain ⟨s, rfl⟩ : ∃ s, t = s + 1 := ⟨t - 1, by omega⟩
          have h1 := (best_step ok s v).2.1 j hj hjv
          have h2 := (best_step ok s f).1
          have h3 : (bAt (bestN F (s + 1 + 1)) v).1 = (bAt (bestN F (s + 1)) f).1 + (rp F.rs j).2.2 := by rw [e]
          rw [← hf] at h1
          simp only [Nat.add_sub_cancel]
          omega
      obtain ⟨us, l1, l2, l3, l4, l5, l6, l7⟩ := best_trace ok t f hfn hfi
      obtain ⟨C, hC⟩ : ∃ C, C = (bAt (bestN F t) f).2 := ⟨_, rfl⟩
      rw [← hC] at l4 l5 l7 e
      have eC : (bAt (bestN F (t + 1)) v).2 = C ++ [j] := by rw [e]
      have g1 : ∀ i, i ≤ t → (us ++ [v]).getD i 0 = us.getD i 0 := fun i hi => getD_app (by omega)
      have g2 : (us ++ [v]).getD (t + 1) 0 = v := by rw [← l1]; exact getD_new
      refine ⟨us ++ [v], by simp [l1], g2, fun u hu => ?_, by rw [eC]; simp [l4], fun i hi => ?_, fun i h1 h2 => ?_, fun i hi => ?_⟩
      · rcases List.mem_append.mp hu with hu | hu
        · exact l3 u hu
        · simp at hu; subst hu; exact hv
      · rw [eC]
        by_cases c : i = t + 1
        · subst c
          rw [g2, e]
          have : (C ++ [j]).take (t + 1) = C ++ [j] := List.take_of_length_le (by simp [l4])
          rw [this, lenS_app]
          have l5t := l5 t (Nat.le_refl _)
          rw [l2, List.take_of_length_le (by omega)] at l5t
          rw [l5t]
          simp [lenS]
        · rw [g1 i (by omega), List.take_append_of_le_length (by omega)]
          exact l5 i (by omega)
      · by_cases c : i = t + 1
        · subst c
          rw [g2]
          exact h
        · rw [g1 i (by omega)]
          exact l6 i h1 (by omega)
      · rw [eC, g1 i (by omega)]
        by_cases c : i = t
        · subst c
          rw [show (C ++ [j]).getD i 0 = j by rw [← l4]; exact getD_new, l2, hf]
        · rw [getD_app (by omega)]
          exact l7 i (by omega)
/-- is the part from s to e closed and too short -/
def partOf (c : List Nat) (s e : Nat) : List Nat := (c.drop s).take (e + 1 - s)
def clp (rs : List Rope) (c : List Nat) (s e : Nat) : Bool := decide ((rp rs (c.getD s 0)).1 = (rp rs (c.getD e 0)).2.1) && decide (lenS rs (partOf c s e) < 0)
/-- no closed part in any chain -/
def NoCl (F : Fleet) : Prop := ∀ v < F.n, ∀ s e, s ≤ e → e < (bAt (bestN F F.n) v).2.length → clp F.rs (bAt (bestN F F.n) v).2 s e = false
theorem two_same {us : List Nat} {n : Nat} (hl : us.length = n + 1) (h : ∀ u ∈ us, u < n) : ∃ i j, i < j ∧ j ≤ n ∧ us.getD i 0 = us.getD j 0 := by
  by_cases nd : us.Nodup
  · have := nodup_le (l' := List.range n) nd (fun x hx => List.mem_range.mpr (h x hx))
    simp at this
    omega
  · refine Classical.byContradiction fun no => nd ?_
    refine List.pairwise_iff_getElem.mpr fun i j hi hj hij e => ?_
    refine no ⟨i, j, hij, by omega, ?_⟩
    simp [List.getD, List.getElem?_eq_getElem hi, List.getElem?_eq_getElem hj, e]
theorem lenS_part {rs : List Rope} {c : List Nat} {s e : Nat} (h : s ≤ e) : lenS rs (partOf c s e) = lenS rs (c.take (e + 1)) - lenS rs (c.take s) := by
  have : c.take (e + 1) = c.take s ++ partOf c s e := by
    unfold partOf
    rw [← List.take_add]
    congr 1
    omega
  rw [this, lenS_app]
  omega
theorem no_closed (ok : F.Ok) (h : NoCl F) : ∃ p, Valid F p := by
  by_cases st : ∃ v, v < F.n ∧ (bAt (bestN F F.n) v).1 < (bAt (bestN F (F.n - 1)) v).1
  · obtain ⟨v, hv, hlt⟩ := st
    obtain ⟨us, l1, l2, l3, l4, l5, l6, l7⟩ := best_trace ok F.n v hv (.inr hlt)
    obtain ⟨i, j, hij, hj, e⟩ := two_same l1 l3
    exfalso
    have hn := h v hv i (j - 1) (by omega) (by omega)
    obtain ⟨C, hC⟩ : ∃ C, C = (bAt (bestN F F.n) v).2 := ⟨_, rfl⟩
    rw [← hC] at l4 l5 l7 hn
    have w := (best_walk ok F.n v).1
    have wl := (best_walk ok F.n v).2.2.1
    rw [← hC] at w wl
    have a1 := l7 i (by omega)
    have a2 : (rp F.rs (C.getD (j - 1) 0)).2.1 = us.getD j 0 := by
      by_cases c : j = F.n
      · rw [wl (j - 1) (by omega), c, l2]
      · have := w.adj (j - 1) (by omega)
        rw [this, show j - 1 + 1 = j by omega]
        exact l7 j (by omega)
    have b1 := l5 i (by omega)
    have b2 := l5 j hj
    have b3 := l6 j (by omega) hj
    have b4 := best_mono ok (s := i) (t := j - 1) (v := us.getD j 0) (by omega)
    rw [← e, b1] at b4
    rw [b2] at b3
    have b5 : lenS F.rs (partOf C i (j - 1)) < 0 := by
      rw [lenS_part (by omega), show j - 1 + 1 = j by omega]
      simp only at b3 b4
      rw [← e] at b3
      omega
    unfold clp at hn
    rw [a1, a2, e] at hn
    simp [b5] at hn
  · refine ⟨fun i => - (bAt (bestN F (F.n - 1)) i).1, fun x hx => ?_⟩
    obtain ⟨k, hk⟩ := List.mem_iff_getElem?.mp hx
    have hkl := (List.getElem?_eq_some_iff.mp hk).1
    have okx := ok.rp x hx
    have h1 := (best_step ok (F.n - 1) x.2.1).2.1 k hkl (by rw [rp_get hk])
    have n1 := ok.n1
    rw [rp_get hk, show F.n - 1 + 1 = F.n by omega] at h1
    have h2 : ¬ (bAt (bestN F F.n) x.2.1).1 < (bAt (bestN F (F.n - 1)) x.2.1).1 := fun z => st ⟨_, okx.r, z⟩
    show - _ - - _ ≤ _
    omega
end
end HR

set_option linter.all false
set_option maxRecDepth 100000
set_option maxHeartbeats 1000000
/-! HR, mirror 47: the mathematics of a rope more. -/
namespace HR
open PySem
structure IsCirc (rs : List Rope) (c : List Nat) : Prop where
  ne : 1 ≤ c.length
  w : Walk rs c
  cl : (rp rs (c.getD (c.length - 1) 0)).2.1 = (rp rs (c.getD 0 0)).1
  neg : lenS rs c < 0
theorem part_len {c : List Nat} {s e : Nat} (h1 : s ≤ e) (h2 : e < c.length) : (partOf c s e).length = e + 1 - s := by
  unfold partOf
  simp
  omega
theorem part_get {c : List Nat} {s e j : Nat} (h : j < e + 1 - s) : (partOf c s e).getD j 0 = c.getD (s + j) 0 := by
  unfold partOf
  simp [List.getD, List.getElem?_take, h]
theorem part_circ {rs : List Rope} {c : List Nat} {s e : Nat} (w : Walk rs c) (h1 : s ≤ e) (h2 : e < c.length) (h : clp rs c s e = true) : IsCirc rs (partOf c s e) := by
  unfold clp at h
  simp only [Bool.and_eq_true, decide_eq_true_eq] at h
  have hl := part_len h1 h2
  refine ⟨by omega, ⟨fun k hk => ?_, fun j hj => ?_⟩, ?_, h.2⟩
  · unfold partOf at hk
    exact w.ix k (List.mem_of_mem_drop (List.mem_of_mem_take hk))
  · rw [hl] at hj
    rw [part_get (by omega), part_get (by omega), ← Nat.add_assoc]
    exact w.adj (s + j) (by omega)
  · rw [hl, part_get (by omega), part_get (by omega)]
    simp only [Nat.add_zero]
    rw [show s + (e + 1 - s - 1) = e by omega]
    exact h.1.symm
section
variable {F : Fleet}
theorem steps_triD {n : Nat} : ∀ (ms ms0 : List Nat) {T : Ents}, Tw n T → (∀ k l, look (stepsT ms T) (k, k) = some l → 0 ≤ l) → Tri ms0 T → Tri (ms.reverse ++ ms0) (stepsT ms T)
  | [], ms0, T, _, _, t => t
  | m :: ms, ms0, T, w, hd, t => by
    have := steps_triD ms (m :: ms0) (w.extend m) hd (ext_tri w.nd (fun l h => by
      obtain ⟨l1, h1, h2⟩ := (ext_le (T := T) (m := m)).trans (steps_le ms _) _ _ h
      have := hd m l1 h1
      omega) t)
    rw [List.reverse_cons, List.append_assoc]
    exact this
theorem tri_D (ok : F.Ok) (hd : DiagOk F) {i j k : Nat} {a b : Int} (h1 : look (chainT F) (i, j) = some a) (h2 : look (chainT F) (j, k) = some b) : ∃ c, look (chainT F) (i, k) = some c ∧ c ≤ a + b := by
  have t := steps_triD (List.range F.n) [] (ropes_w ok.rp (diag_w F.n)) (fun k l h => by
    have hk := (chain_w ok).rg _ ((look_mem (chain_w ok).nd).mp (show look (chainT F) (k, k) = some l from h))
    obtain ⟨l2, h2, h3⟩ := hd k hk.1
    have : look (chainT F) (k, k) = some l := h
    rw [this] at h2
    cases h2
    exact h3) (fun _ h => by cases h)
  refine t j ?_ i k a b h1 h2
  have := (chain_w ok).rg _ ((look_mem (chain_w ok).nd).mp h1)
  simp
  exact this.2
theorem no_circ (ok : F.Ok) (hd : DiagOk F) {c : List Nat} (h : IsCirc F.rs c) : False := by
  have key : ∀ j, j + 1 ≤ c.length → ∃ l, look (chainT F) ((rp F.rs (c.getD 0 0)).1, (rp F.rs (c.getD j 0)).2.1) = some l ∧ l ≤ lenS F.rs (c.take (j + 1)) := by
    intro j
    induction j with
    | zero =>
      intro hj
      have e : c[0]? = some c[0] := List.getElem?_eq_getElem (by omega)
      have e2 : c.getD 0 0 = c[0] := by simp [List.getD, e]
      obtain ⟨l, h1, h2⟩ := chain_rope (F := F) (x := rp F.rs c[0]) (rp_mem (h.w.ix _ (List.getElem_mem _)))
      refine ⟨l, by rw [e2]; exact h1, ?_⟩
      rw [take_snoc e]
      simpa [lenS] using h2
    | succ j ih =>
      intro hj
      obtain ⟨l, h1, h2⟩ := ih (by omega)
      have e : c[j + 1]? = some c[j + 1] := List.getElem?_eq_getElem (by omega)
      have e2 : c.getD (j + 1) 0 = c[j + 1] := by simp [List.getD, e]
      obtain ⟨l3, h3, h4⟩ := chain_rope (F := F) (x := rp F.rs c[j + 1]) (rp_mem (h.w.ix _ (List.getElem_mem _)))
      have adj := h.w.adj j (by omega)
      rw [e2] at adj ⊢
      rw [adj] at h1
      obtain ⟨l5, h5, h6⟩ := tri_D ok hd h1 h3
      refine ⟨l5, h5, ?_⟩
      rw [take_snoc e, lenS_app]
      have : lenS F.rs [c[j + 1]] = (rp F.rs c[j + 1]).2.2 := by simp [lenS]
      omega
  have hn := h.ne
  obtain ⟨l, h1, h2⟩ := key (c.length - 1) (by omega)
  rw [h.cl, show c.length - 1 + 1 = c.length by omega, List.take_length] at *
  have hk := (chain_w ok).rg _ ((look_mem (chain_w ok).nd).mp h1)
  obtain ⟨l2, h3, h4⟩ := hd _ hk.1
  rw [h1] at h3
  cases h3
  have := h.neg
  omega
theorem diag_valid (ok : F.Ok) (hd : DiagOk F) : ∃ p, Valid F p := by
  by_cases h : NoCl F
  · exact no_closed ok h
  · exfalso
    unfold NoCl at h
    have : ∃ v s e, s ≤ e ∧ e < (bAt (bestN F F.n) v).2.length ∧ clp F.rs (bAt (bestN F F.n) v).2 s e = true := by
      refine Classical.byContradiction fun no => h fun v hv s e h1 h2 => ?_
      cases hc : clp F.rs (bAt (bestN F F.n) v).2 s e with
      | false => rfl
      | true => exact absurd ⟨v, s, e, h1, h2, hc⟩ no
    obtain ⟨v, s, e, h1, h2, h3⟩ := this
    exact no_circ ok hd (part_circ (best_walk ok _ _).1 h1 h2 h3)
/-- what chains keep -/
theorem offers_rel {R : Nat → Nat → Int → Prop} {os T : Ents} (ho : ∀ o ∈ os, R o.1.1 o.1.2 o.2) (h : ∀ i j l, look T (i, j) = some l → R i j l) : ∀ i j l, look (offersT os T) (i, j) = some l → R i j l := fun i j l hq => by
  rcases offers_from hq with z | z
  · exact h i j l z
  · exact ho _ z
theorem steps_rel {R : Nat → Nat → Int → Prop} {n : Nat} (tri : ∀ i j k a b, R i j a → R j k b → R i k (a + b)) : ∀ (ms : List Nat) {T : Ents}, Tw n T → (∀ i j l, look T (i, j) = some l → R i j l) → ∀ i j l, look (stepsT ms T) (i, j) = some l → R i j l
  | [], T, _, h => h
  | m :: ms, T, w, h => steps_rel tri ms (w.extend m) fun i j l hq => by
    rcases ext_from w.nd hq with z | ⟨a, b, h1, h2, rfl⟩
    · exact h i j l z
    · exact tri _ _ _ _ _ (h _ _ _ h1) (h _ _ _ h2)
theorem chain_rel {R : Nat → Nat → Int → Prop} (ok : F.Ok) (tri : ∀ i j k a b, R i j a → R j k b → R i k (a + b)) (hr : ∀ x ∈ F.rs, R x.1 x.2.1 x.2.2) (h0 : ∀ i < F.n, R i i 0) : ∀ i j l, look (chainT F) (i, j) = some l → R i j l := by
  refine steps_rel (n := F.n) tri _ (ropes_w ok.rp (diag_w F.n)) ?_
  rw [ropes_offers]
  refine offers_rel (fun o ho => ?_) fun i j l hq => ?_
  · obtain ⟨x, hx, rfl⟩ := List.mem_map.mp ho
    exact hr x hx
  · obtain ⟨h1, h2, h3⟩ := diag_look.mp hq
    have h2 : i = j := h2
    subst h2 h3
    exact h0 i h1
/-- a fleet with a rope more -/
def plusF (F : Fleet) (x : Rope) : Fleet := ⟨F.n, F.rs ++ [x]⟩
theorem plus_ok (ok : F.Ok) {x : Rope} (okx : RopeOk F.n x) (hl : F.rs.length < 40) : (plusF F x).Ok := ⟨ok.n1, ok.n8, by simp [plusF]; omega, fun y hy => by
  simp only [plusF, List.mem_append, List.mem_singleton] at hy
  rcases hy with hy | rfl
  · exact ok.rp y hy
  · exact okx⟩
/-- the rope is too short -/
def Bad (F : Fleet) (x : Rope) : Prop := ∃ b, look (chainT F) (x.2.1, x.1) = some b ∧ b + x.2.2 < 0
theorem bad_no (ok : F.Ok) {x : Rope} (h : Bad F x) {p : Nat → Int} (v : Valid (plusF F x) p) : False := by
  obtain ⟨b, h1, h2⟩ := h
  have v1 : Valid F p := fun y hy => v y (List.mem_append_left _ hy)
  have h3 := chain_sound ok v1 _ _ _ h1
  have h4 := v x (List.mem_append_right _ List.mem_cons_self)
  omega
theorem not_bad (ok : F.Ok) {x : Rope} (okx : RopeOk F.n x) {p : Nat → Int} (v : Valid F p) (h : ¬ Bad F x) : ∃ p', Valid (plusF F x) p' := by
  obtain ⟨f, r, l⟩ := x
  obtain ⟨P0, hP0⟩ : ∃ P0, P0 = p f - l := ⟨_, rfl⟩
  refine ⟨fun i => match look (chainT F) (r, i) with | none => p i | some d => max (p i) (P0 - d), fun y hy => ?_⟩
  simp only [plusF, List.mem_append, List.mem_singleton] at hy
  rcases hy with hy | rfl
  · have hv := v y hy
    obtain ⟨d, hd, hd2⟩ := chain_rope hy
    simp only
    cases e : look (chainT F) (r, y.1) with
    | none =>
      simp only
      cases e2 : look (chainT F) (r, y.2.1) with
      | none => exact hv
      | some d2 => simp only; omega
    | some d1 =>
      obtain ⟨d2, e2, h2⟩ := chain_tri ok v e hd
      rw [e2]
      simp only
      omega
  · have hr := chain_diag ok v (i := r) okx.r
    simp only [hr]
    cases e : look (chainT F) (r, f) with
    | none => simp only; omega
    | some d =>
      have : ¬ d + l < 0 := fun z => h ⟨d, e, z⟩
      simp only
      omega
/-- a chain is not longer than all barges' ropes -/
theorem chain_hi (ok : F.Ok) {p : Nat → Int} (v : Valid F p) {a b : Nat} {l : Int} (h : look (chainT F) (a, b) = some l) : l ≤ 99 * F.n := by
  obtain ⟨T, hT⟩ : ∃ T, T = chainT F := ⟨_, rfl⟩
  have ha : a < F.n := ((chain_w ok).rg _ ((look_mem (chain_w ok).nd).mp h)).1
  let P : Nat → Nat → Prop := fun k x => ∃ l, look (chainT F) (a, x) = some l ∧ l ≤ 99 * k
  have P0 : ∀ k, P k a := fun k => ⟨0, chain_diag ok v ha, by omega⟩
  have cl : ∃ k, k ≤ F.n ∧ ∀ x ∈ F.rs, P k x.1 → P k x.2.1 := by
    refine Classical.byContradiction fun no => ?_
    have grow : ∀ k, k ≤ F.n + 1 → ∃ s : List Nat, s.Nodup ∧ s.length = k ∧ ∀ x ∈ s, x < F.n ∧ P k x := by
      intro k
      induction k with
      | zero => exact fun _ => ⟨[], List.nodup_nil, rfl, fun x hx => absurd hx List.not_mem_nil⟩
      | succ k ih =>
        intro hk
        obtain ⟨s, h1, h2, h3⟩ := ih (by omega)
        have : ∃ x ∈ F.rs, P k x.1 ∧ ¬ P k x.2.1 := Classical.byContradiction fun no2 => no ⟨k, by omega, fun x hx hp => Classical.byContradiction fun z => no2 ⟨x, hx, hp, z⟩⟩
        obtain ⟨x, hx, ⟨l1, e1, g1⟩, hn⟩ := this
        obtain ⟨l2, e2, g2⟩ := chain_rope hx
        obtain ⟨l3, e3, g3⟩ := chain_tri ok v e1 e2
        have okx := ok.rp x hx
        refine ⟨x.2.1 :: s, List.nodup_cons.mpr ⟨fun z => hn (h3 _ z).2, h1⟩, by simp [h2], fun y hy => ?_⟩
        rcases List.mem_cons.mp hy with rfl | hy
        · have := okx.hi
          exact ⟨okx.r, l3, e3, by push_cast; omega⟩
        · obtain ⟨q1, l4, q2, q3⟩ := h3 y hy
          exact ⟨q1, l4, q2, by push_cast; omega⟩
    obtain ⟨s, h1, h2, h3⟩ := grow (F.n + 1) (Nat.le_refl _)
    have := nodup_le (l' := List.range F.n) h1 (fun x hx => List.mem_range.mpr (h3 x hx).1)
    simp at this
    omega
  obtain ⟨k, hk, cl⟩ := cl
  have hb : P k b := by
    refine Classical.byContradiction fun nb => ?_
    obtain ⟨M, hM⟩ : ∃ M : Int, M = (max 0 (l - (p a - p b))) + 1 := ⟨_, rfl⟩
    have v2 : Valid F (fun i => haveI := Classical.propDecidable (P k i); if P k i then p i + M else p i) := fun x hx => by
      have := v x hx
      simp only
      by_cases c1 : P k x.1
      · rw [if_pos c1, if_pos (cl x hx c1)]; omega
      · rw [if_neg c1]
        split <;> omega
    have s := chain_sound ok v2 a b l h
    rw [if_pos (P0 k), if_neg nb] at s
    omega
  obtain ⟨l2, e, g⟩ := hb
  rw [h] at e
  cases e
  omega
/-- the least chain with the rope, or without -/
def leastO (T : Ents) (x : Rope) (a b : Nat) : Option Int :=
  match look T (a, b), (look T (a, x.1)).bind fun u => (look T (x.2.1, b)).map fun w => u + x.2.2 + w with
  | none, y => y
  | some o, none => some o
  | some o, some y => some (min o y)
theorem least_ok (ok : F.Ok) {x : Rope} (okx : RopeOk F.n x) (hl : F.rs.length < 40) {p : Nat → Int} (v : Valid F p) {p' : Nat → Int} (v' : Valid (plusF F x) p') (a b : Nat) : look (chainT (plusF F x)) (a, b) = leastO (chainT F) x a b := by
  have ok' := plus_ok ok okx hl
  have nb : ¬ Bad F x := fun h => bad_no ok h v'
  have dom := chain_dom ok' v' ok rfl (fun y hy => imp_of (F := plusF F x) (List.mem_append_left _ hy))
  obtain ⟨lx, ex, gx⟩ := chain_rope (F := plusF F x) (x := x) (List.mem_append_right _ List.mem_cons_self)
  have by_le : ∀ {u w : Int}, look (chainT F) (a, x.1) = some u → look (chainT F) (x.2.1, b) = some w → ∃ l, look (chainT (plusF F x)) (a, b) = some l ∧ l ≤ u + x.2.2 + w := fun {u w} h1 h2 => by
    obtain ⟨u1, q1, q2⟩ := dom _ _ h1
    obtain ⟨w1, q3, q4⟩ := dom _ _ h2
    obtain ⟨c1, q5, q6⟩ := chain_tri ok' v' q1 ex
    obtain ⟨c2, q7, q8⟩ := chain_tri ok' v' q5 q3
    exact ⟨c2, q7, by omega⟩
  let R : Nat → Nat → Int → Prop := fun i j l => (∃ t, look (chainT F) (i, j) = some t ∧ t ≤ l) ∨ ∃ u w, look (chainT F) (i, x.1) = some u ∧ look (chainT F) (x.2.1, j) = some w ∧ u + x.2.2 + w ≤ l
  have rel : ∀ i j l, look (chainT (plusF F x)) (i, j) = some l → R i j l := by
    refine chain_rel ok' ?_ ?_ ?_
    · rintro i j k la lb (⟨t, h1, h2⟩ | ⟨u, w, h1, h2, h3⟩) (⟨t', h4, h5⟩ | ⟨u', w', h4, h5, h6⟩)
      · obtain ⟨c, q1, q2⟩ := chain_tri ok v h1 h4
        exact .inl ⟨c, q1, by omega⟩
      · obtain ⟨c, q1, q2⟩ := chain_tri ok v h1 h4
        exact .inr ⟨c, w', q1, h5, by omega⟩
      · obtain ⟨c, q1, q2⟩ := chain_tri ok v h2 h4
        exact .inr ⟨u, c, h1, q1, by omega⟩
      · obtain ⟨c, q1, q2⟩ := chain_tri ok v h2 h4
        have : ¬ c + x.2.2 < 0 := fun z => nb ⟨c, q1, z⟩
        exact .inr ⟨u, w', h1, h5, by omega⟩
    · intro y hy
      simp only [plusF, List.mem_append, List.mem_singleton] at hy
      rcases hy with hy | rfl
      · exact .inl (chain_rope hy)
      · exact .inr ⟨0, 0, chain_diag ok v okx.f, chain_diag ok v okx.r, by omega⟩
    · intro i hi
      exact .inl ⟨0, chain_diag ok v hi, Int.le_refl _⟩
  unfold leastO
  cases e : look (chainT (plusF F x)) (a, b) with
  | none =>
    cases e1 : look (chainT F) (a, b) with
    | some t =>
      obtain ⟨l1, q, _⟩ := dom _ _ e1
      rw [e] at q; cases q
    | none =>
      cases e2 : look (chainT F) (a, x.1) with
      | none => rfl
      | some u =>
        cases e3 : look (chainT F) (x.2.1, b) with
        | none => rfl
        | some w =>
          obtain ⟨l1, q, _⟩ := by_le e2 e3
          rw [e] at q; cases q
  | some l =>
    cases e1 : look (chainT F) (a, b) with
    | some t =>
      obtain ⟨l1, q, ql⟩ := dom _ _ e1
      rw [e] at q; cases q
      cases e2 : look (chainT F) (a, x.1) with
      | none =>
        simp only [Option.bind_none]
        rcases rel a b l e with ⟨t2, h1, h2⟩ | ⟨u, w, h1, _, _⟩
        · rw [e1] at h1; cases h1
          congr 1; omega
        · rw [e2] at h1; cases h1
      | some u =>
        cases e3 : look (chainT F) (x.2.1, b) with
        | none =>
          simp only [Option.bind_some, Option.map_none]
          rcases rel a b l e with ⟨t2, h1, h2⟩ | ⟨u, w, h1, h2, _⟩
          · rw [e1] at h1; cases h1
            congr 1; omega
          · rw [e3] at h2; cases h2
        | some w =>
          simp only [Option.bind_some, Option.map_some]
          obtain ⟨l1, q, ql2⟩ := by_le e2 e3
          rw [e] at q; cases q
          rcases rel a b l e with ⟨t2, h1, h2⟩ | ⟨u, w, h1, h2, h3⟩
          · rw [e1] at h1; cases h1
            congr 1; omega
          · rw [e2] at h1; cases h1
            rw [e3] at h2; cases h2
            congr 1; omega
    | none =>
      simp only
      rcases rel a b l e with ⟨t2, h1, h2⟩ | ⟨u, w, h1, h2, h3⟩
      · rw [e1] at h1; cases h1
      · obtain ⟨l1, q, ql2⟩ := by_le h1 h2
        rw [e] at q; cases q
        rw [h1, h2]
        simp only [Option.bind_some, Option.map_some]
        congr 1; omega
theorem least_hi (ok : F.Ok) {x : Rope} (okx : RopeOk F.n x) {p : Nat → Int} (v : Valid F p) {a b : Nat} {l : Int} (h : leastO (chainT F) x a b = some l) : l ≤ 1700 := by
  have h8 := ok.n8
  have hx := okx.hi
  have hi : ∀ {q : Nat × Nat} {t : Int}, look (chainT F) q = some t → t ≤ 792 := fun {q t} e => by
    have := chain_hi ok v (a := q.1) (b := q.2) e
    omega
  unfold leastO at h
  cases e1 : look (chainT F) (a, b) with
  | some t =>
    have := hi e1
    rw [e1] at h
    split at h
    · rename_i z; cases z
    · rename_i z _; cases z; cases h; omega
    · rename_i z _; cases z; cases h; omega
  | none =>
    rw [e1] at h
    simp only at h
    cases e2 : look (chainT F) (a, x.1) with
    | none => rw [e2] at h; cases h
    | some u =>
      cases e3 : look (chainT F) (x.2.1, b) with
      | none => rw [e2, e3] at h; cases h
      | some w =>
        rw [e2, e3] at h
        simp only [Option.bind_some, Option.map_some, Option.some.injEq] at h
        subst h
        have := hi e2
        have := hi e3
        omega
end
end HR

set_option linter.all false
set_option maxRecDepth 100000
set_option maxHeartbeats 2000000
/-! HR, mirror 48: closed parts of chains (k22). -/
namespace HR
open PySem
def ropesD (rs : List Rope) : D := .tup (rs.map ropeD)
def natsD (c : List Nat) : D := .tup (c.map natD)
theorem idxRope {m : Mem} {rs : List Rope} {k : Nat} (h : k < rs.length) : idxV (ropesD rs) (.int k) m = some (ropeD (rp rs k)) := by
  show L2.atI (rs.map ropeD) (k : Int) = _
  rw [atI_nat (by simpa using h)]
  simp [rp_get (List.getElem?_eq_getElem h), List.getElem?_eq_getElem h]
theorem rope0 {m : Mem} {x : Rope} : idxV (ropeD x) (.int 0) m = some (.int x.1) := rfl
theorem rope1 {m : Mem} {x : Rope} : idxV (ropeD x) (.int 1) m = some (.int x.2.1) := rfl
theorem rope2 {m : Mem} {x : Rope} : idxV (ropeD x) (.int 2) m = some (.int x.2.2) := rfl
theorem idxNats {m : Mem} {c : List Nat} {k : Nat} (h : k < c.length) : idxV (natsD c) (.int k) m = some (natD (c.getD k 0)) := by
  show L2.atI (c.map natD) (k : Int) = _
  rw [atI_nat (by simpa using h)]
  simp [List.getD, List.getElem?_eq_getElem h]
theorem idxNats0 {m : Mem} {c : List Nat} (h : 0 < c.length) : idxV (natsD c) (.int 0) m = some (natD (c.getD 0 0)) := idxNats (k := 0) h
theorem idxLast {m : Mem} {c : List Nat} (h : 0 < c.length) : idxV (natsD c) (.int (-1)) m = some (natD (c.getD (c.length - 1) 0)) := by
  show L2.atI (c.map natD) (-1) = _
  refine atI_lastM ?_
  rw [List.getLast?_eq_getElem?]
  have : c.length - 1 < c.length := by omega
  simp [List.getD, List.getElem?_eq_getElem this]
theorem cut_part (c : List D) (s e : Nat) (h1 : s ≤ e) (h2 : e < c.length) : cut c (some (s : Int)) (some ((e : Int) + 1)) = (c.drop s).take (e + 1 - s) := by
  have e1 := sIx_nat c.length 0 s
  have e2 := sIx_nat c.length c.length (e + 1)
  unfold cut
  rw [e1, show ((e : Int) + 1) = ((e + 1 : Nat) : Int) by simp, e2, Nat.min_eq_left (by omega), Nat.min_eq_left (by omega)]
theorem slcNats {m : Mem} {c : List Nat} {s e : Nat} (h1 : s ≤ e) (h2 : e < c.length) : slcV (natsD c) (some (s : Int)) (some ((e : Int) + 1)) m = .ok (natsD (partOf c s e)) m := by
  show R.ok (D.tup (cut (c.map natD) (some (s : Int)) (some ((e : Int) + 1)))) m = _
  rw [cut_part _ _ _ h1 (by simpa using h2)]
  simp [natsD, partOf, List.map_take, List.map_drop]
theorem cmpEqI {m : Mem} {i j : Int} : cmpV .Eq (.int i) (.int j) m = some (decide (i = j)) := by simp [cmpV]
section
variable {G : Prog}
/-- the sum of some ropes' lengths -/
theorem sumLen_w {cx : Cx} {rs : List Rope} {c : List Nat} {r : Sl} {m : Mem} {ir ii : Nat} {Q : D → Mem → Prop} {it : List E} (h1 : 1 ≤ m.length) (hl : c.length ≤ 100) (hi : ∀ k ∈ c, k < rs.length) (src : Mem → It)
    (hit : (evL cx it r m).wp fun ds m1 => m1 = m ∧ mkIt .any ds m = some (src m, m)) (hnth : ∀ i m1, Pf m m1 → (src m).nth i m1 = some ((c.map natD)[i]?)) (hend : ∀ m1, endIt (src m) m1 = m1)
    (hr : ∀ k, ((wipeS r [ii]).set ii (some (.int (k : Nat))))[ir]? = some (some (ropesD rs))) (hri : ∀ k, ((wipeS r [ii]).set ii (some (.int (k : Nat))))[ii]? = some (some (.int (k : Nat)))) (h : ∀ m', Pf m m' → Q (.int (lenS rs c)) m') :
    (evE cx (.lc [ii] .any it (.name ii) [] (.idx (.idx (.var ir) (.var ii)) (.int 2))) r m).wp fun d m1 => (bltV .sum [d] m1).wp Q := by
  refine w_lc ?_
  refine hit.mono fun ds m1 ⟨e1, e2⟩ => ?_
  subst e1
  rw [e2]
  simp only [osat_some]
  refine lcG pfG (c.map natD) (fun i acc => acc = ((c.take i).map fun k => (rp rs k).2.2).map .int) h1 (by simp; omega) hnth rfl ?_ ?_
  · rintro i x acc m2 hx rfl hm2
    simp only [List.getElem?_map, Option.map_eq_some_iff] at hx
    obtain ⟨k, hk, rfl⟩ := hx
    refine w_turnL (r1 := (wipeS r [ii]).set ii (some (.int (k : Nat)))) (by simp [asgP, natD]) ?_
    have hkl := hi k (List.mem_of_getElem? hk)
    simp only [w_nil, condB, osat_some, if_true, w_idx, w_var, w_int, hr, hri, Option.bind_some, id, idxRope hkl, rope2]
    refine ⟨Pf.refl _, ?_⟩
    rw [take_snoc hk]
    simp
  · rintro acc m2 rfl hm2 e3
    simp only [List.length_map, List.take_length] at e3
    have e4 : listAt m2 m1.length = some ((c.map fun k => (rp rs k).2.2).map .int) := by simp [listAt, e3]
    have e5 : (listAt m2 m1.length).bind intsOf = some (c.map fun k => (rp rs k).2.2) := by rw [e4]; exact intsOf_map _
    rw [hend]
    simp only [bltV, e5, wpOk]
    exact h m2 hm2
theorem closed_w (h21 : G.fns 21 = some fn21) {n : Nat} {rs : List Rope} {c : List Nat} {m : Mem} {Q : D → Mem → Prop} (h1 : 1 ≤ m.length) (hl : c.length ≤ 100) (hi : ∀ k ∈ c, k < rs.length)
    (q0 : ∀ m' k, Pf m m' → (∀ s e, s ≤ e → e < c.length → clp rs c s e = false) → m'[k]? = some (.lst []) → Q (.ref k) m')
    (q1 : ∀ m' k s e, Pf m m' → s ≤ e → e < c.length → clp rs c s e = true → m'[k]? = some (.lst ((partOf c s e).map natD)) → Q (.ref k) m') : (callN G (n + 1) 21 [ropesD rs, natsD c] m).wp Q := by
  refine wp_call h21 rfl ?_
  have hlim : lim62 (c.length : Int) = true := by simp [lim62]; omega
  have bl : ∀ m, bltV .len [natsD c] m = .ok (.int c.length) m := fun m => by simp [bltV, natsD]
  simp only [fn21]
  rw [w_consS]
  refine w_forS ?_
  simp [startS, bl, mkIt, hlim, endIt]
  refine ws_for (fun i r m1 => Pf m m1 ∧ (∀ s e, s < i → s ≤ e → e < c.length → clp rs c s e = false) ∧ ∃ a2 a3 a4 a5, r = [some (ropesD rs), some (natsD c), a2, a3, a4, a5]) ((List.range c.length).map fun (j : Nat) => D.int (0 + j)) (fun _ _ _ _ => nth_rng)
    ⟨Pf.refl _, fun s e hs => absurd hs (Nat.not_lt_zero _), none, none, none, none, rfl⟩ (fu_of (by simp; omega)) ?_ ?_
  · rintro i r m1 x hx ⟨hm1, no, a2, a3, a4, a5, rfl⟩
    obtain ⟨hin, rfl⟩ := rng_get hx
    refine ⟨_, by simp; rfl, ?_⟩
    have hlim2 : lim62 (i : Int) = true := by simp [lim62]; omega
    rw [w_consS]
    refine w_forS ?_
    have et : ((c.length : Int) - (i : Int)).toNat = c.length - i := by omega
    simp [bl, mkIt, hlim, hlim2, endIt, et]
    refine ws_for (fun j r m2 => Pf m m2 ∧ (∀ e, i ≤ e → e < i + j → clp rs c i e = false) ∧ ∃ a3 a4 a5, r = [some (ropesD rs), some (natsD c), some (.int (i : Nat)), a3, a4, a5]) ((List.range (c.length - i)).map fun (j : Nat) => D.int (i + j)) (fun _ _ _ _ => nth_rng)
      ⟨hm1, fun e h1 h2 => absurd h2 (by omega), a3, a4, a5, rfl⟩ (fu_of (by simp; omega)) ?_ ?_
    · rintro j r m2 x hx ⟨hm2, no2, a3, a4, a5, rfl⟩
      simp only [List.getElem?_map, Option.map_eq_some_iff] at hx
      obtain ⟨j', hj, rfl⟩ := hx
      have hjl : j < c.length - i := by have := (List.getElem?_eq_some_iff.mp hj).1; simpa using this
      rw [List.getElem?_range hjl] at hj
      cases hj
      refine ⟨[some (ropesD rs), some (natsD c), some (.int (i : Nat)), some (.int ((i + j : Nat) : Int)), a4, a5], by simp, ?_⟩
      have hs := slcNats (c := c) (s := i) (e := i + j) (m := m2) (by omega) (by omega)
      have pl := part_len (c := c) (s := i) (e := i + j) (by omega) (by omega)
      have pm : ∀ k ∈ partOf c i (i + j), k < rs.length := fun k hk => hi k (List.mem_of_mem_drop (List.mem_of_mem_take hk))
      have g0 : (partOf c i (i + j)).getD 0 0 = c.getD i 0 := part_get (by omega)
      have g1 : (partOf c i (i + j)).getD ((partOf c i (i + j)).length - 1) 0 = c.getD (i + j) 0 := by
        rw [pl, part_get (by omega), show i + (i + j + 1 - i - 1) = i + j by omega]
      obtain ⟨pt, hpt⟩ : ∃ pt, pt = partOf c i (i + j) := ⟨_, rfl⟩
      have gi : ∀ k < c.length, c.getD k 0 < rs.length := fun k hk => by
        have : c.getD k 0 = c[k] := by simp [List.getD, List.getElem?_eq_getElem hk]
        rw [this]; exact hi _ (List.getElem_mem _)
      rw [w_consS, w_asg]
      simp only [w_slc, w_var, w_cons, w_nil, w_bin, w_int, List.getElem?_cons_zero, List.getElem?_cons_succ, Option.bind_some, id, osat_some, binAdd, wpOk, optI]
      rw [hs]
      rw [← hpt] at pl pm g0 g1 ⊢
      simp only [wpOk]
      simp [asgT, asgP]
      have pl0 : 0 < pt.length := by omega
      simp [idxNats0 pl0, idxLast pl0, g0, g1, natD, idxRope (gi i (by omega)), idxRope (gi (i + j) (by omega)), rope0, rope1, intOf, cmpEqI, boolOf, -List.getD_eq_getElem?_getD]
      have ce : clp rs c i (i + j) = (decide ((rp rs (c.getD i 0)).1 = (rp rs (c.getD (i + j) 0)).2.1) && decide (lenS rs pt < 0)) := by rw [hpt]; rfl
      have cont : clp rs c i (i + j) = false → ∀ e, i ≤ e → e < i + (j + 1) → clp rs c i e = false := fun hc e h1 h2 => by
        by_cases z : e = i + j
        · rw [z]; exact hc
        · exact no2 e h1 (by omega)
      by_cases hA : (rp rs (c.getD i 0)).1 = (rp rs (c.getD (i + j) 0)).2.1
      · rw [if_pos (Int.ofNat_inj.mpr hA)]
        refine sumLen_w (rs := rs) (c := pt) (by have := hm2.len; omega) (by omega) pm (fun _ => .src (.fix (pt.map natD))) ?_ (fun i m1 _ => by simp [It.nth, Src.all]) (fun _ => rfl) (fun k => by simp [wipeS]) (fun k => by simp [wipeS]) fun m3 hm3 => ?_
        · simp [mkIt, srcOf, natsD]
        · simp only [cmpLtI, osat_some, boolOf]
          by_cases hB : lenS rs pt < 0
          · simp only [hB, decide_true, if_true]
            have hc : clp rs c i (i + j) = true := by rw [ce]; simp [hA, hB, -List.getD_eq_getElem?_getD]
            have : bltV .list [natsD pt] m3 = .ok (.ref m3.length) (m3 ++ [.lst (pt.map natD)]) := rfl
            rw [this]
            exact q1 _ _ i (i + j) ((hm2.trans hm3).trans (Pf.app _ _)) (by omega) (by omega) hc (by rw [← hpt]; exact get0)
          · simp only [hB, decide_false, Bool.false_eq_true, if_false]
            exact ⟨hm2.trans hm3, cont (by rw [ce]; simp [hB])⟩
      · rw [if_neg (fun z => hA (Int.ofNat_inj.mp z))]
        exact ⟨hm2, cont (by rw [ce]; simp [hA, -List.getD_eq_getElem?_getD])⟩
    · rintro r m2 ⟨hm2, no2, a3, a4, a5, rfl⟩
      simp only [List.length_map, List.length_range] at no2
      simp only [thenNx, w_nilS]
      refine ⟨hm2, fun s e hs h1 h2 => ?_, _, _, _, _, rfl⟩
      by_cases z : s = i
      · subst z; exact no2 e h1 (by omega)
      · exact no s e (by omega) h1 h2
  · rintro r m1 ⟨hm1, no, a2, a3, a4, a5, rfl⟩
    simp only [List.length_map, List.length_range] at no
    simp
    exact q0 _ _ (hm1.trans (Pf.app _ _)) (fun s e h1 h2 => no s e (by omega) h1 h2) get0
end
end HR

set_option linter.all false
set_option maxRecDepth 100000
set_option maxHeartbeats 2000000
/-! HR, mirror 49: find_circle. -/
namespace HR
open PySem
/-- a dict whose keys are 0, 1, .. -/
def kvR (n : Nat) (g : Nat → D) : List (Key × D) := (List.range n).map fun (j : Nat) => (.inl (j : Int), g j)
theorem kvR_succ (n : Nat) (g : Nat → D) : kvR (n + 1) g = kvR n g ++ [(.inl (n : Int), g n)] := by simp [kvR, List.range_succ]
theorem kvR_congr {n : Nat} {g g' : Nat → D} (h : ∀ j < n, g j = g' j) : kvR n g = kvR n g' := List.map_congr_left fun j hj => by rw [h j (List.mem_range.mp hj)]
theorem kvR_none {n i : Nat} {g : Nat → D} (h : n ≤ i) : ∀ p ∈ kvR n g, p.1 ≠ (.inl (i : Int) : Key) := fun p hp z => by
  obtain ⟨j, hj, rfl⟩ := List.mem_map.mp hp
  have := List.mem_range.mp hj
  simp at z
  omega
theorem getK_app {κ : Type} [DecidableEq κ] {a b : List (κ × D)} {k : κ} : getK (a ++ b) k = (getK a k).or (getK b k) := by
  unfold getK
  rw [List.find?_append]
  cases a.find? _ <;> rfl
theorem getK_no {κ : Type} [DecidableEq κ] {a : List (κ × D)} {k : κ} (h : ∀ p ∈ a, p.1 ≠ k) : getK a k = none := by
  unfold getK
  rw [List.find?_eq_none.mpr fun p hp => by simpa using h p hp]
  rfl
theorem getK_rng {i : Nat} {g : Nat → D} : ∀ {n : Nat}, i < n → getK (kvR n g) (.inl (i : Int)) = some (g i)
  | n + 1, h => by
    rw [kvR_succ, getK_app]
    by_cases e : i = n
    · subst e
      rw [getK_no (kvR_none (Nat.le_refl _))]
      simp [getK]
    · rw [getK_rng (n := n) (by omega)]
      rfl
theorem putK_rng {n i : Nat} {g : Nat → D} {v : D} (h : i < n) : putK (kvR n g) (.inl (i : Int)) v = kvR n fun j => if j = i then v else g j := by
  unfold putK
  rw [if_pos]
  · unfold kvR
    rw [List.map_map]
    refine List.map_congr_left fun j _ => ?_
    by_cases e : j = i
    · subst e; simp
    · have : ¬ ((j : Int) = (i : Int)) := by omega
      simp [e, this]
  · refine List.any_eq_true.mpr ⟨(.inl (i : Int), g i), List.mem_map.mpr ⟨i, List.mem_range.mpr h, rfl⟩, by simp⟩
def bD (y : Int × List Nat) : D := .tup [.int y.1, natsD y.2]
def kvB (n : Nat) (B : Best) : List (Key × D) := kvR n fun i => bD (bAt B i)
theorem kvB_len {n : Nat} {B : Best} : (kvB n B).length = n := by simp [kvB, kvR]
theorem idxB {m : Mem} {k n i : Nat} {B : Best} (h : m[k]? = some (.dK false (kvB n B))) (hi : i < n) : idxV (.ref k) (.int (i : Int)) m = some (bD (bAt B i)) := by
  have e1 : listAt m k = none := by simp [listAt, h]
  have e2 : dictAt m k (.int (i : Int)) = some (some (bD (bAt B i))) := by
    simp only [dictAt, h, keyOf, Option.map_some]
    rw [kvB, getK_rng hi]
  simp only [idxV, e1, e2, Option.bind_some, id]
theorem bD0 {m : Mem} {y : Int × List Nat} : idxV (bD y) (.int 0) m = some (.int y.1) := rfl
theorem bD1 {m : Mem} {y : Int × List Nat} : idxV (bD y) (.int 1) m = some (natsD y.2) := rfl
theorem binNats {m : Mem} {c : List Nat} {k : Nat} (h : c.length ≤ 1000) : binV .Add (natsD c) (.tup [.int (k : Int)]) m = .ok (natsD (c ++ [k])) m := by
  have hz : (c.map natD).length + [D.int (k : Int)].length ≤ big := by
    have hbig : big = 1000000 := rfl
    simp; omega
  have : c.map natD ++ [.int (k : Int)] = (c ++ [k]).map natD := by simp [natD]
  simp only [natsD, binV, hz, if_true, this]
theorem asgP2 {a b : Nat} {x y : D} {r : Sl} : asgP (.tup [.name a, .name b]) (.tup [x, y]) r = some ((r.set a (some x)).set b (some y)) := by simp [asgP, asgPs]
section
variable {G : Prog}
theorem find_w (P : Pk G) (h20 : G.fns 20 = some fn20) (h21 : G.fns 21 = some fn21) {n : Nat} {F : Fleet} {m : Mem} {Q : D → Mem → Prop} (ok : F.Ok) (h1 : 1 ≤ m.length)
    (q0 : ∀ m', Pf m m' → NoCl F → Q .non m')
    (q1 : ∀ m' k c, Pf m m' → IsCirc F.rs c → c.length ≤ 8 → m'[k]? = some (.lst (c.map natD)) → Q (.ref k) m') : (callN G (n + 4) 20 [F.d] m).wp Q := by
  refine wp_call h20 rfl ?_
  have h8 := ok.n8
  have hlim : lim62 (F.n : Int) = true := by simp [lim62]; omega
  have hbig : big = 1000000 := rfl
  simp only [fn20]
  rw [w_consS, w_ex]
  simp [startS, -thenNx]
  refine chk_fleet P ok ?_
  rw [thenNx, w_consS, w_asg]
  have eA : ∀ r, asgP (.tup [.name 4, .name 5]) F.d r = some ((r.set 4 (some (.int F.n))).set 5 (some (ropesD F.rs))) := fun r => asgP2
  simp [asgT, eA, -thenNx]
  rw [thenNx, w_consS, w_asg]
  refine w_dc ?_
  simp [mkIt, hlim]
  refine wp_dc (fun i m1 => m1 = m ++ [.dK false (kvR i fun _ => bD (0, []))]) ((List.range F.n).map fun (j : Nat) => D.int (0 + j)) (fun _ _ _ => nth_rng) (by simp [kvR]) (fu_of (by simp; omega)) ?_ ?_
  · rintro i m1 x hx rfl
    obtain ⟨hi, rfl⟩ := rng_get hx
    refine w_turnD (by simp [wipeS]; rfl) ?_
    have e1 := get0 (m := m) (x := .dK false (kvR i fun _ => bD (0, []))) (t := [])
    have e2 := set0 (m := m) (x := .dK false (kvR i fun _ => bD (0, []))) (z := .dK false (kvR (i + 1) fun _ => bD (0, []))) (t := [])
    have e4 : (kvR i fun _ => bD (0, [])).length < big := by simp [kvR]; omega
    have e5 : putK (kvR i fun _ => bD (0, [])) (.inl (i : Int)) (.tup [.int 0, .tup []]) = kvR (i + 1) fun _ => bD (0, []) := by
      rw [putK_new (kvR_none (Nat.le_refl _)), kvR_succ]
      rfl
    simp [condB, two_big]
    simp only [dcPut, e1, keyOf, Option.bind_some, e4, if_true, e5, e2]
  · rintro m1 rfl
    have eb : kvR F.n (fun _ => bD (0, [])) = kvB F.n (bestN F 0) := kvR_congr fun j hj => by
      simp [bestN, best0, bAt, List.getD, List.getElem?_replicate, hj]
    simp only [List.length_map, List.length_range, endIt, eb]
    refine w_forS ?_
    simp [mkIt, hlim, -thenNx]
    refine ws_for (fun i r m1 => Pf m m1 ∧ ∃ kb a2 a6 a8 a9 a10 a11 a12, m1[kb]? = some (.dK false (kvB F.n (bestN F i))) ∧ r = [some F.d, some (.ref kb), a2, none, some (.int F.n), some (ropesD F.rs), a6, none, a8, a9, a10, a11, a12]) ((List.range F.n).map fun (j : Nat) => D.int (0 + j)) (fun _ _ _ _ => nth_rng)
      ⟨Pf.app _ _, m.length, none, none, none, none, none, none, none, get0, rfl⟩ (fu_of (by simp; omega)) ?_ ?_
    · rintro i r m1 x hx ⟨hm1, kb, a2, a6, a8, a9, a10, a11, a12, hkb, rfl⟩
      obtain ⟨hi, rfl⟩ := rng_get hx
      refine ⟨_, by simp; rfl, ?_⟩
      rw [w_consS, w_asg]
      simp [bltV, hkb, asgT, asgP, -thenNx]
      rw [thenNx, w_consS]
      refine w_forS ?_
      have hl := ok.len
      simp [mkIt, srcOf, ropesD, endIt, -thenNx]
      have hkl : kb < m1.length := (List.getElem?_eq_some_iff.mp hkb).1
      have hml := hm1.len
      refine ws_for (fun j r m2 => Pf m m2 ∧ m2[kb]? = some (.dK false (kvB F.n (bestN F i))) ∧ m2[m1.length]? = some (.dK false (kvB F.n (relaxN F.rs (bestN F i) j))) ∧ ∃ a8 a9 a10 a11 a12, r = [some F.d, some (.ref kb), some (.int (i : Nat)), none, some (.int F.n), some (ropesD F.rs), some (.ref m1.length), none, a8, a9, a10, a11, a12])
        ((F.rs.map ropeD).zipIdx.map fun p => D.tup [.int p.2, p.1]) (fun _ _ _ _ => nth_en) ⟨hm1.trans (Pf.app _ _), by rw [getLt hkl]; exact hkb, by simpa [relaxN] using get0, a8, a9, a10, a11, a12, rfl⟩ (fu_of (by simp; omega)) ?_ ?_
      · rintro j r m2 x hx ⟨hm2, hb, hL, a8, a9, a10, a11, a12, rfl⟩
        obtain ⟨y, hy, rfl⟩ := en_get hx
        simp only [List.getElem?_map, Option.map_eq_some_iff] at hy
        obtain ⟨x, hx0, rfl⟩ := hy
        have okx := ok.rp x (List.mem_of_getElem? hx0)
        have erp := rp_get hx0
        refine ⟨_, by simp [ropeD]; rfl, ?_⟩
        obtain ⟨B, hB⟩ : ∃ B, B = bestN F i := ⟨_, rfl⟩
        obtain ⟨L, hLd⟩ : ∃ L, L = relaxN F.rs B j := ⟨_, rfl⟩
        have hLl : L.length = F.n := by rw [hLd, relaxN_len, hB, bestN_len]
        have hc : (bAt B x.1).2.length ≤ 1000 := by
          have := (best_walk ok i x.1).2.1
          rw [← hB] at this
          omega
        have enx : relaxN F.rs B (j + 1) = rlx B L j x := by rw [relaxN, erp, hLd]
        rw [← hB, ← hLd] at hL
        rw [← hB] at hb
        rw [← hB, enx]
        rw [w_consS, w_asg]
        simp [idxB hb okx.f, bD0, binAdd, asgT, asgP, -thenNx]
        rw [thenNx]
        simp [idxB hL okx.r, bD0, cmpLtI, boolOf]
        unfold rlx
        by_cases hlt : (bAt B x.1).1 + x.2.2 < (bAt L x.2.1).1
        · rw [if_pos hlt, if_pos hlt]
          simp [idxB hb okx.f, bD1, binNats hc, asgT, two_big]
          have e1 : ¬ (1 : Nat) > big := by omega
          have hset : setSub (.ref m1.length) (.int (x.2.1 : Int)) (.tup [.int ((bAt B x.1).1 + x.2.2), natsD ((bAt B x.1).2 ++ [j])]) m2 = some (m2.set m1.length (.dK false (kvB F.n (L.set x.2.1 ((bAt B x.1).1 + x.2.2, (bAt B x.1).2 ++ [j]))))) := by
            have hz : (kvB F.n L).length < big := by rw [kvB_len]; omega
            have hp : putK (kvB F.n L) (.inl (x.2.1 : Int)) (.tup [.int ((bAt B x.1).1 + x.2.2), natsD ((bAt B x.1).2 ++ [j])]) = kvB F.n (L.set x.2.1 ((bAt B x.1).1 + x.2.2, (bAt B x.1).2 ++ [j])) := by
              rw [kvB, putK_rng okx.r]
              refine kvR_congr fun q hq => ?_
              rw [bAt_set (by rw [hLl]; exact okx.r)]
              by_cases z : q = x.2.1 <;> simp [z, bD]
            simp only [setSub, hL, dcPut, keyOf, Option.bind_some, hz, if_true, hp]
          refine ⟨by omega, ?_⟩
          rw [hset]
          simp
          refine ⟨pfG.put hm2 (by omega), ?_, ?_⟩
          · rw [List.getElem?_set_ne (by omega)]; exact hb
          · exact List.getElem?_set_self (List.getElem?_eq_some_iff.mp hL).1
        · rw [if_neg hlt, if_neg hlt]
          exact ⟨hm2, hb, hL⟩
      · rintro r m2 ⟨hm2, hb, hL, a8, a9, a10, a11, a12, rfl⟩
        simp only [List.length_map, List.length_zipIdx] at hL
        simp [asgT, asgP]
        exact ⟨hm2, _, hL, rfl, rfl⟩
    · rintro r m1 ⟨hm1, kb, a2, a6, a8, a9, a10, a11, a12, hkb, rfl⟩
      simp only [List.length_map, List.length_range] at hkb
      simp only [endIt]
      rw [thenNx, w_consS]
      refine w_forS ?_
      simp [mkIt, hlim, endIt, -thenNx]
      refine ws_for (fun i r m2 => Pf m m2 ∧ m2[kb]? = some (.dK false (kvB F.n (bestN F F.n))) ∧ (∀ v < i, ∀ s e, s ≤ e → e < (bAt (bestN F F.n) v).2.length → clp F.rs (bAt (bestN F F.n) v).2 s e = false) ∧
          ∃ a3 a7, r = [some F.d, some (.ref kb), a2, a3, some (.int F.n), some (ropesD F.rs), a6, a7, a8, a9, a10, a11, a12]) ((List.range F.n).map fun (j : Nat) => D.int (0 + j)) (fun _ _ _ _ => nth_rng)
        ⟨hm1, hkb, fun v hv => absurd hv (Nat.not_lt_zero _), none, none, rfl⟩ (fu_of (by simp; omega)) ?_ ?_
      · rintro i r m2 x hx ⟨hm2, hb, no, a3, a7, rfl⟩
        obtain ⟨hi, rfl⟩ := rng_get hx
        refine ⟨_, by simp; rfl, ?_⟩
        obtain ⟨w, wl, _, _⟩ := best_walk ok F.n i
        obtain ⟨c, hc⟩ : ∃ c, c = (bAt (bestN F F.n) i).2 := ⟨_, rfl⟩
        have kb1 : 1 ≤ m2.length := by have := hm2.len; omega
        rw [w_consS, w_asg]
        simp [idxB hb hi, bD1, -thenNx]
        rw [← hc] at w wl ⊢
        refine closed_w h21 kb1 (by omega) w.ix (fun m3 k hm3 hno hk => ?_) fun m3 k s e hm3 hs he hcl hk => ?_
        · simp [asgT, asgP]
          have hk2 : (m3 ++ [O.lst []])[k]? = some (.lst (([] : List Int).map .int)) := by rw [getLt (List.getElem?_eq_some_iff.mp hk).1]; exact hk
          have hk3 : (m3 ++ [O.lst []])[m3.length]? = some (.lst []) := get0
          have := eq_emp hk2 hk3
          simp [cmpV, this, boolOf]
          refine ⟨(hm2.trans hm3).trans (Pf.app _ _), ?_, fun v hv s e hs he => ?_⟩
          · exact (hm3.trans (Pf.app _ _)).get hb
          · by_cases z : v = i
            · subst z
              rw [← hc] at he ⊢
              exact hno s e hs he
            · exact no v (by omega) s e hs he
        · simp [asgT, asgP]
          have pl := part_len hs he
          have hk2 : (m3 ++ [O.lst []])[k]? = some (.lst (((partOf c s e).map fun (i : Nat) => (i : Int)).map .int)) := by rw [getLt (List.getElem?_eq_some_iff.mp hk).1, ← nats_ints]; exact hk
          have hk3 : (m3 ++ [O.lst []])[m3.length]? = some (.lst []) := get0
          have := eq_emp hk2 hk3
          have hne : (partOf c s e).isEmpty = false := by
            cases hp : partOf c s e with
            | nil => rw [hp] at pl; simp at pl; omega
            | cons _ _ => rfl
          simp [cmpV, this, boolOf, hne]
          refine q1 _ _ _ ((hm2.trans hm3).trans (Pf.app _ _)) (part_circ w hs he hcl) (by omega) ?_
          rw [getLt (List.getElem?_eq_some_iff.mp hk).1]; exact hk
      · rintro r m2 ⟨hm2, hb, no, a3, a7, rfl⟩
        simp only [List.length_map, List.length_range] at no
        simp
        exact q0 m2 hm2 no
end
end HR

set_option linter.all false
set_option maxRecDepth 100000
set_option maxHeartbeats 2000000
/-! HR, mirror 50: is_circle. -/
namespace HR
open PySem
theorem nth_zipL {xs ys : List D} {a b i : Nat} {m : Mem} (h1 : m[a]? = some (.lst xs)) (h2 : m[b]? = some (.lst ys)) : (It.zip (.lst a) (.lst b)).nth i m = some ((List.zipWith (fun a b => D.tup [a, b]) xs ys)[i]?) := by
  simp [It.nth, Src.all, listAt, h1, h2, List.getElem?_zipWith]
  cases xs[i]? <;> simp
  cases ys[i]? <;> simp
theorem boolsOf_map (l : List Bool) : boolsOf (l.map .bl) = some l := by
  induction l with
  | nil => rfl
  | cons a l ih =>
    unfold boolsOf at *
    rw [List.map_cons, List.mapM_cons, ih]
    rfl
section
variable {G : Prog}
theorem iscirc_w (P : Pk G) (h22 : G.fns 22 = some fn22) {n : Nat} {F : Fleet} {k : Nat} {c : List Nat} {m : Mem} {Q : D → Mem → Prop} (ok : F.Ok) (h1 : 1 ≤ k) (hc : IsCirc F.rs c) (h8 : c.length ≤ 8) (hk : m[k]? = some (.lst (c.map natD)))
    (h : ∀ m', Pf m m' → Q (.bl true) m') : (callN G (n + 4) 22 [F.d, .ref k] m).wp Q := by
  refine wp_call h22 rfl ?_
  have hbig : big = 1000000 := rfl
  have hkl : k < m.length := (List.getElem?_eq_some_iff.mp hk).1
  have hn := hc.ne
  have hlr := ok.len
  simp only [fn22]
  rw [w_consS, w_ex]
  simp [startS, -thenNx]
  refine chk_fleet P ok ?_
  rw [thenNx, w_consS, w_asg]
  simp [dI1, asgT, asgP, -thenNx]
  rw [thenNx, w_consS]
  have eR : D.tup (F.rs.map ropeD) = ropesD F.rs := rfl
  rw [eR]
  have hk2 : (m ++ [O.lst []])[k]? = some (.lst ((c.map fun (i : Nat) => (i : Int)).map .int)) := by rw [getLt hkl, ← nats_ints]; exact hk
  have hk3 : (m ++ [O.lst []])[m.length]? = some (.lst []) := get0
  have hemp := eq_emp hk2 hk3
  have hne : c.isEmpty = false := by
    cases hp : c with
    | nil => rw [hp] at hn; simp at hn
    | cons _ _ => rfl
  simp [isiV, hk, boolOf, cmpV, hemp, hne, -thenNx]
  rw [thenNx, w_consS, w_ifS, w_tst, w_not, w_blt, w_cons]
  obtain ⟨m1, hm1⟩ : ∃ m1, m1 = m ++ [O.lst []] := ⟨_, rfl⟩
  have p1 : Pf m m1 := by rw [hm1]; exact Pf.app _ _
  rw [← hm1]
  refine w_lc ?_
  have hk4 : m1[k]? = some (.lst (c.map natD)) := p1.get hk
  simp [mkIt, srcOf, listAt, hk4]
  refine lcG pfG (c.map natD) (fun i acc => acc = (List.replicate i true).map .bl) (by have := p1.len; omega) (by simp; omega) (fun i m2 h => nth_lst (h.get hk4)) rfl ?_ ?_
  · rintro i x acc m2 hx rfl hm2
    simp only [List.getElem?_map, Option.map_eq_some_iff] at hx
    obtain ⟨q, hq, rfl⟩ := hx
    have hql := hc.w.ix q (List.mem_of_getElem? hq)
    refine w_turnL (by simp [wipeS]; rfl) ?_
    have bl : ∀ m, bltV .len [ropesD F.rs] m = .ok (.int F.rs.length) m := fun m => by simp [bltV, ropesD]
    have d1 : (0 : Int) ≤ (q : Int) := by omega
    have d2 : (q : Int) ≤ (F.rs.length : Int) - 1 := by omega
    simp [condB, bl, binSub, natD, is_int P, d1, d2]
    exact ⟨Pf.refl _, by simp [List.replicate_succ']⟩
  · rintro acc m2 rfl hm2 e2
    simp only [List.length_map] at e2
    have e4 : (listAt m2 m1.length).bind boolsOf = some (List.replicate c.length true) := by
      simp only [listAt, e2, Option.bind_some]
      exact boolsOf_map _
    simp [endIt, bltV, e4, boolOf, -thenNx]
    have hk5 : m2[k]? = some (.lst (c.map natD)) := hm2.get hk4
    have sA : slcV (.ref k) (some 1) none m2 = .ok (.ref m2.length) (m2 ++ [.lst ((c.map natD).drop 1)]) := by
      simp only [slcV, listAt, hk5]
      rw [show (1 : Int) = ((1 : Nat) : Int) by rfl, cut_drop]
    have hk6 : (m2 ++ [O.lst ((c.map natD).drop 1)])[k]? = some (.lst (c.map natD)) := (Pf.app _ _).get hk5
    obtain ⟨m3, hm3⟩ : ∃ m3, m3 = m2 ++ [O.lst ((c.map natD).drop 1)] := ⟨_, rfl⟩
    have sB : slcV (.ref k) none (some 1) m3 = .ok (.ref m3.length) (m3 ++ [.lst ((c.map natD).take 1)]) := by
      rw [← hm3] at hk6
      simp only [slcV, listAt, hk6]
      rw [show (1 : Int) = ((1 : Nat) : Int) by rfl, cut_take]
    obtain ⟨m4, hm4⟩ : ∃ m4, m4 = m3 ++ [O.lst ((c.map natD).take 1)] := ⟨_, rfl⟩
    have gA : m4[m2.length]? = some (.lst ((c.map natD).drop 1)) := by rw [hm4, getLt (by rw [hm3]; simp), hm3]; exact get0
    have gB : m4[m3.length]? = some (.lst ((c.map natD).take 1)) := by rw [hm4]; exact get0
    have sC : binV .Add (.ref m2.length) (.ref m3.length) m4 = .ok (.ref m4.length) (m4 ++ [.lst ((c.map natD).drop 1 ++ (c.map natD).take 1)]) := by
      have hz : ((c.map natD).drop 1).length + ((c.map natD).take 1).length ≤ big := by simp; omega
      simp only [binV, gA, gB, hz, if_true]
    refine w_forS ?_
    rw [← hm3] at sA
    rw [← hm4] at sB
    simp [sA, sB, optI, sC, -List.drop_one, -List.map_drop, -List.map_take]
    have hC : (m4 ++ [O.lst ((c.map natD).drop 1 ++ (c.map natD).take 1)])[m4.length]? = some (.lst ((c.map natD).drop 1 ++ (c.map natD).take 1)) := get0
    obtain ⟨m5, hm5⟩ : ∃ m5, m5 = m4 ++ [O.lst ((c.map natD).drop 1 ++ (c.map natD).take 1)] := ⟨_, rfl⟩
    rw [← hm5] at hC ⊢
    have p5 : Pf m2 m5 := by
      rw [hm5, hm4, hm3]
      exact ((Pf.app _ _).trans (Pf.app _ _)).trans (Pf.app _ _)
    have hk7 : m5[k]? = some (.lst (c.map natD)) := p5.get hk5
    have eZ : (c.map natD).drop 1 ++ (c.map natD).take 1 = (c.drop 1 ++ c.take 1).map natD := by simp
    rw [eZ] at hC
    simp [mkIt, srcOf, listAt, hk7, hC, endIt, -thenNx, -List.drop_one, -List.map_drop, -List.map_take]
    obtain ⟨c2, hc2⟩ : ∃ c2, c2 = c.drop 1 ++ c.take 1 := ⟨_, rfl⟩
    have hc2l : c2.length = c.length := by rw [hc2]; simp; omega
    rw [← hc2] at hC
    have adj : ∀ i, i < c.length → (rp F.rs (c.getD i 0)).2.1 = (rp F.rs (c2.getD i 0)).1 := fun i hi => by
      by_cases z : i + 1 < c.length
      · rw [hc.w.adj i z]
        congr 2
        rw [hc2]
        simp only [List.getD]
        rw [List.getElem?_append_left (by simp; omega), List.getElem?_drop, Nat.add_comm 1 i]
      · have : i = c.length - 1 := by omega
        subst this
        rw [hc.cl]
        congr 2
        rw [hc2]
        simp only [List.getD]
        rw [List.getElem?_append_right (by simp)]
        simp [List.getElem?_take]
    refine ws_for (fun i r m6 => m6 = m5 ∧ ∃ a3 a4, r = [some F.d, some (.ref k), some (ropesD F.rs), a3, a4]) (List.zipWith (fun a b => D.tup [a, b]) (c.map natD) (c2.map natD)) (fun _ _ _ ⟨e, _⟩ => by rw [e]; exact nth_zipL hk7 hC) ⟨rfl, _, _, rfl⟩ (fu_of (by simp; omega)) ?_ ?_
    · rintro i r m6 x hx ⟨rfl, a3, a4, rfl⟩
      have hi : i < c.length := by
        have := (List.getElem?_eq_some_iff.mp hx).1
        simp [hc2l] at this
        exact this
      simp only [List.getElem?_zipWith, List.getElem?_map, List.getElem?_eq_getElem hi, List.getElem?_eq_getElem (show i < c2.length by omega), Option.map_some] at hx
      cases hx
      refine ⟨_, by simp [asgP, asgPs]; rfl, ?_⟩
      have a0 := adj i hi
      have g1 : c.getD i 0 = c[i] := by simp [List.getD, List.getElem?_eq_getElem hi]
      have g2 : c2.getD i 0 = c2[i] := by simp [List.getD, List.getElem?_eq_getElem (show i < c2.length by omega)]
      rw [g1, g2] at a0
      have b1 := hc.w.ix c[i] (List.getElem_mem _)
      have b2 : c2[i] < F.rs.length := by
        have : c2[i] ∈ c := by
          have h3 : c2[i] ∈ c2 := List.getElem_mem _
          generalize c2[i] = y at h3
          rw [hc2] at h3
          rcases List.mem_append.mp h3 with h3 | h3
          · exact List.mem_of_mem_drop h3
          · exact List.mem_of_mem_take h3
        exact hc.w.ix _ this
      simp [natD, idxRope b1, idxRope b2, rope0, rope1, cmpNe, a0, boolOf]
    · rintro r m6 ⟨rfl, a3, a4, rfl⟩
      have pl := p5.len
      have pl2 := hm2.len
      have pl1 := p1.len
      have pm : Pf m m6 := (p1.trans hm2).trans p5
      rw [thenNx, w_consS, w_ret, w_cmp, w_blt, w_cons]
      simp only [w_nil]
      refine sumLen_w (rs := F.rs) (c := c) (by omega) (by omega) hc.w.ix (fun _ => .src (.lst k)) ?_ (fun i m7 h7 => nth_lst (h7.get hk7)) (fun _ => rfl) (fun k => by simp [wipeS]) (fun k => by simp [wipeS]) fun m7 hm7 => ?_
      · simp [mkIt, srcOf, listAt, hk7]
      · have := hc.neg
        simp [cmpLtI, this]
        exact h m7 (pm.trans hm7)
end
end HR

set_option linter.all false
set_option maxRecDepth 100000
set_option maxHeartbeats 2000000
/-! HR, mirror 51: what is raised; contradictory fleets. -/
namespace HR
open PySem
/-- it raises the exception of class c, without fields -/
def R.wx {α : Type} (x : R α) (c : Nat) (Q : Mem → Prop) : Prop :=
  match x with
  | .exn c' fs m => c' = c ∧ fs = [] ∧ Q m
  | _ => False
def R.wsx (x : R (Fl × Sl)) (c : Nat) (Q : Mem → Prop) : Prop :=
  match x with
  | .ok (.ex c' fs, _) m => c' = c ∧ fs = [] ∧ Q m
  | _ => False
section
variable {cx : Cx} {r : Sl} {m : Mem} {c : Nat} {Q : Mem → Prop}
theorem wx_bind {α β : Type} {x : R α} {f : α → Mem → R β} (h : x.wp fun a m1 => (f a m1).wx c Q) : (x.bind f).wx c Q := by
  cases x with
  | ok a m => exact h
  | exn _ _ _ => exact h.elim
  | bad => exact h.elim
theorem wx_bind0 {α β : Type} {x : R α} {f : α → Mem → R β} (h : x.wx c Q) : (x.bind f).wx c Q := by
  cases x with
  | ok a m => exact h.elim
  | exn _ _ _ => exact h
  | bad => exact h.elim
theorem wsx_sb0 {α : Type} {x : R α} {f : α → Mem → R (Fl × Sl)} (h : x.wx c Q) : (x.sb r f).wsx c Q := by
  cases x with
  | ok a m => exact h.elim
  | exn _ _ _ => exact h
  | bad => exact h.elim
theorem wsx_rse (h : Q m) : (evS cx (.rse c) r m).wsx c Q := by
  rw [evS]
  exact ⟨rfl, rfl, h⟩
theorem wsx_ex {e : E} (h : (evE cx e r m).wx c Q) : (evS cx (.ex e) r m).wsx c Q := by
  rw [evS]; exact wsx_sb0 h
theorem wsx_ret {e : E} (h : (evE cx e r m).wx c Q) : (evS cx (.ret e) r m).wsx c Q := by
  rw [evS]; exact wsx_sb0 h
theorem wsx_if {e : E} {a b : List HR.S} (h : (tstE cx e r m).wp fun t m1 => if t = true then (evSs cx a r m1).wsx c Q else (evSs cx b r m1).wsx c Q) : (evS cx (.ifS e a b) r m).wsx c Q := by
  rw [evS]
  cases x : tstE cx e r m with
  | ok t m1 =>
    rw [x] at h
    cases t <;> exact h
  | exn _ _ _ => rw [x] at h; exact h.elim
  | bad => rw [x] at h; exact h.elim
theorem wsx_next {s : HR.S} {ss : List HR.S} (h : (evS cx s r m).ws fun fl r1 m1 => fl = .nx ∧ (evSs cx ss r1 m1).wsx c Q) : (evSs cx (s :: ss) r m).wsx c Q := by
  rw [evSs]
  cases x : evS cx s r m with
  | ok q m1 =>
    rw [x] at h
    obtain ⟨fl, r1⟩ := q
    cases fl <;> first | exact h.elim | (obtain ⟨e, _⟩ := h; cases e; done) | exact h.2
  | exn _ _ _ => rw [x] at h; exact h.elim
  | bad => rw [x] at h; exact h.elim
theorem wsx_here {s : HR.S} {ss : List HR.S} (h : (evS cx s r m).wsx c Q) : (evSs cx (s :: ss) r m).wsx c Q := by
  rw [evSs]
  cases x : evS cx s r m with
  | ok q m1 =>
    rw [x] at h
    obtain ⟨fl, r1⟩ := q
    cases fl <;> first | exact h.elim | exact h
  | exn _ _ _ => rw [x] at h; exact h.elim
  | bad => rw [x] at h; exact h.elim
theorem wx_methO {n : Nat} {o : E} {es : List E} (h : (evE cx o r m).wx c Q) : (evE cx (.meth n o es) r m).wx c Q := by
  rw [evE]; exact wx_bind0 h
theorem wx_call {f : Nat} {es : List E} (h : (evL cx es r m).wp fun ds m1 => (cx.call f ds m1).wx c Q) : (evE cx (.call f es) r m).wx c Q := by
  rw [evE]; exact wx_bind h
theorem wx_def {G : Prog} {n f : Nat} {F : Fn} {ds : List D} {m : Mem} (hF : G.fns f = some F) (hl : ds.length = F.np) (h : (evSs ⟨callN G n, G.meth, G.init⟩ F.body (startS F.ns ds) m).wsx c Q) : (callN G (n + 1) f ds m).wx c Q := by
  unfold callN
  rw [hF]
  simp only [hl, if_true]
  cases e : evSs ⟨callN G n, G.meth, G.init⟩ F.body (startS F.ns ds) m with
  | ok q m1 =>
    rw [e] at h
    obtain ⟨fl, r1⟩ := q
    cases fl <;> first | exact h.elim | exact h
  | exn _ _ _ => rw [e] at h; exact h.elim
  | bad => rw [e] at h; exact h.elim
/-- try: caught; not raised -/
theorem w_tryX {body : List HR.S} {b : Bool} {QS : Fl → Sl → Mem → Prop} (h : (evSs cx body r m).wsx c fun m1 => ∀ r1, QS (.rt (.bl b)) r1 m1) : (evS cx (.tryR body c b) r m).ws QS := by
  rw [evS]
  cases x : evSs cx body r m with
  | ok q m1 =>
    rw [x] at h
    obtain ⟨fl, r1⟩ := q
    cases fl <;> first | exact h.elim | skip
    obtain ⟨rfl, rfl, h⟩ := h
    rw [R.bind_ok]
    simp only [if_true]
    exact h r1
  | exn _ _ _ => rw [x] at h; exact h.elim
  | bad => rw [x] at h; exact h.elim
theorem w_tryN {body : List HR.S} {b : Bool} {QS : Fl → Sl → Mem → Prop} (h : (evSs cx body r m).ws QS) : (evS cx (.tryR body c b) r m).ws QS := by
  rw [evS]
  cases x : evSs cx body r m with
  | ok q m1 =>
    rw [x] at h
    obtain ⟨fl, r1⟩ := q
    cases fl <;> first | exact h.elim | exact h
  | exn _ _ _ => rw [x] at h; exact h.elim
  | bad => rw [x] at h; exact h.elim
end
section
variable {G : Prog}
def negI (T : Ents) (i : Nat) : Bool := match look T (i, i) with
  | some l => decide (l < 0)
  | none => false
theorem contraX_w (P : Pk G) {n o kd : Nat} {F : Fleet} {T : Ents} {m : Mem} {Q : D → Mem → Prop} (h1 : 1 ≤ m.length) (h8 : F.n ≤ 8) (t : TabAt m o kd F T false) (hd : ∀ i < F.n, ∃ l, look T (i, i) = some l) (hx : ∃ i < F.n, negI T i = true)
    (h : ∀ m', Pf m m' → Q (.bl true) m') : (callN G (n + 1) 17 [.ref o] m).wp Q := by
  refine wp_call P.p17 rfl ?_
  have hlim : lim62 (F.n : Int) = true := by simp [lim62]; omega
  simp only [fn17, w_consS, w_ret, w_cmp]
  refine w_lc ?_
  simp [startS, fldV, t.ob, List.lookup, mkIt, hlim]
  refine lcG pfG ((List.range F.n).map fun (j : Nat) => D.int (0 + j)) (fun i acc => acc = ((List.range i).filter (negI T)).map natD) h1 (by simp; omega) (fun _ _ _ => nth_rng) rfl ?_ ?_
  · rintro i x acc m1 hx rfl hm1
    obtain ⟨hi, rfl⟩ := rng_get hx
    obtain ⟨l, hl⟩ := hd i hi
    have t1 := t.pf hm1
    have g0 : keysOf (.tup [.int i, .int i]) = some (k2 (i, i)) := keysOf_k2 (i, i)
    have g1 : dictAt m1 kd (.tup [.int i, .int i]) = some (some (.int l)) := by simp [dictAt, t1.dt, g0, getK_of, hl]
    have g2 : listAt m1 kd = none := by simp [listAt, t1.dt]
    refine w_turnL (by simp [wipeS]; rfl) ?_
    have e : negI T i = decide (l < 0) := by simp [negI, hl]
    by_cases hn : l < 0
    · simp [fldV, t1.ob, List.lookup, two_big, idxV, g1, g2, cmpV, hn, condB]
      refine ⟨Pf.refl _, ?_⟩
      rw [filt_succ, e]
      simp [hn, natD]
    · simp [fldV, t1.ob, List.lookup, two_big, idxV, g1, g2, cmpV, hn, condB]
      refine ⟨Pf.refl _, ?_⟩
      rw [filt_succ, e]
      simp [hn]
  · rintro acc m1 rfl hm1 e1
    simp only [List.length_map, List.length_range] at e1
    simp [endIt]
    have hk2 : (m1 ++ [O.lst []])[m.length]? = some (.lst ((((List.range F.n).filter (negI T)).map fun (i : Nat) => (i : Int)).map .int)) := by rw [getLt (List.getElem?_eq_some_iff.mp e1).1, ← nats_ints]; exact e1
    have hk3 : (m1 ++ [O.lst []])[m1.length]? = some (.lst []) := get0
    have hemp := eq_emp hk2 hk3
    have hne : ((List.range F.n).filter (negI T)).isEmpty = false := by
      obtain ⟨i, hi, hi2⟩ := hx
      have : i ∈ (List.range F.n).filter (negI T) := List.mem_filter.mpr ⟨List.mem_range.mpr hi, hi2⟩
      cases hp : (List.range F.n).filter (negI T) with
      | nil => rw [hp] at this; cases this
      | cons _ _ => rfl
    simp only [cmpV, hemp, List.isEmpty_map, hne, Option.map_some, osat_some, Bool.not_false]
    exact h _ (hm1.trans (Pf.app _ _))
theorem diag_some {F : Fleet} {i : Nat} (hi : i < F.n) : ∃ l, look (chainT F) (i, i) = some l := by
  have h0 : look (diagT F.n) (i, i) = some 0 := diag_look.mpr ⟨hi, rfl, rfl⟩
  obtain ⟨l, h1, h2⟩ := ((ropes_offers F.rs (diagT F.n)) ▸ offers_le _ _ : Le (diagT F.n) (ropesT F.rs (diagT F.n))).trans (steps_le (List.range F.n) _) _ _ h0
  exact ⟨l, h1⟩
theorem neg_of {F : Fleet} (h : ¬ DiagOk F) : ∃ i < F.n, negI (chainT F) i = true := by
  refine Classical.byContradiction fun no => h fun i hi => ?_
  obtain ⟨l, hl⟩ := diag_some hi
  refine ⟨l, hl, ?_⟩
  refine Classical.byContradiction fun z => no ⟨i, hi, ?_⟩
  simp [negI, hl]
  omega
theorem consX_w (P : Pk G) {n : Nat} {F : Fleet} {m : Mem} {Q : Mem → Prop} (ok : F.Ok) (h1 : 1 ≤ m.length) (hd : ¬ DiagOk F) (h : ∀ m', Pf m m' → Q m') : (callN G (n + 4) 18 [F.d] m).wx 4 Q := by
  refine wx_def P.p18 rfl ?_
  refine wsx_next ?_
  rw [w_asg]
  refine w_make (f := 13) P.i ?_
  simp [fn18, startS]
  refine init_w P ok fun x => ⟨rfl, ?_⟩
  have t1 := tab_of (m := m) (F := F) (T := chainT F) (x := x)
  refine wsx_here (wsx_if ?_)
  rw [w_tst]
  refine w_meth ?_
  simp [clsOf, t1.ob, P.m4]
  refine contraX_w P (by simp; omega) ok.n8 t1 (fun i hi => diag_some hi) (neg_of hd) fun m2 hm2 => ?_
  simp [boolOf]
  refine wsx_here (wsx_rse ?_)
  exact h _ ((Pf.app _ _).trans hm2)
theorem chainX_w (P : Pk G) (h19 : G.fns 19 = some fn19) {n : Nat} {F : Fleet} {m : Mem} {Q : Mem → Prop} (ok : F.Ok) (h1 : 1 ≤ m.length) (hd : ¬ DiagOk F) (h : ∀ m', Pf m m' → Q m') : (callN G (n + 5) 19 [F.d, .int 0, .int 0] m).wx 4 Q := by
  refine wx_def h19 rfl ?_
  have n1 := ok.n1
  refine wsx_next ?_
  simp [fn19, startS]
  refine chk_fleet P ok ?_
  refine wsx_next ?_
  refine w_forS ?_
  simp [mkIt, srcOf, endIt, two_big]
  have d2 : (0 : Int) ≤ (F.n : Int) - 1 := by omega
  refine ws_for (fun i r m1 => m1 = m ∧ ∃ a, r = [some F.d, some (.int 0), some (.int 0), a]) [.int 0, .int 0] (fun _ _ _ _ => by simp [It.nth, Src.all]) ⟨rfl, _, rfl⟩ (fu_of (by simp)) ?_ ?_
  · rintro i r m1 x hx ⟨rfl, a, rfl⟩
    have : x = .int 0 := by
      match i, hx with
      | 0, hx => simp at hx; exact hx.symm
      | 1, hx => simp at hx; exact hx.symm
      | i + 2, hx => simp at hx
    subst this
    refine ⟨_, by simp; rfl, ?_⟩
    simp [dI0, binSub, is_int P, d2, boolOf]
    intro z
    exact absurd n1 (by omega)
  · rintro r m1 ⟨rfl, a, rfl⟩
    refine ⟨rfl, ?_⟩
    refine wsx_here (wsx_ret (wx_methO (wx_call ?_)))
    simp
    exact consX_w P ok h1 hd h
theorem contr_w (P : Pk G) (h19 : G.fns 19 = some fn19) (h297 : G.fns 297 = some fn297) {n : Nat} {F : Fleet} {m : Mem} {Q : D → Mem → Prop} {b : Bool} (ok : F.Ok) (h1 : 1 ≤ m.length) (hb : b = true ↔ ¬ DiagOk F) (h : ∀ m', Pf m m' → Q (.bl b) m') : (callN G (n + 6) 297 [F.d] m).wp Q := by
  refine wp_call h297 rfl ?_
  by_cases hd : DiagOk F
  · have e : b = false := by
      cases b with
      | true => exact absurd hd (hb.mp rfl)
      | false => rfl
    subst e
    simp only [fn297]
    rw [w_consS]
    refine w_tryN ?_
    simp [startS]
    refine chainlen_w P h19 ok hd (i := 0) (j := 0) ok.n1 ok.n1 fun m2 hm2 => ?_
    exact h m2 hm2
  · have e : b = true := hb.mpr hd
    subst e
    simp only [fn297]
    rw [w_consS]
    refine w_tryX (wsx_here (wsx_ex (wx_call ?_)))
    simp [startS]
    exact chainX_w P h19 ok h1 hd h
end
end HR

set_option linter.all false
set_option maxRecDepth 100000
set_option maxHeartbeats 2000000
/-! HR, mirror 52: rows of chains (k22). -/
namespace HR
open PySem
/-! == of rows of rows -/
def rowO (g : Nat → Nat → Option Int) (n i : Nat) : List (Option Int) := (List.range n).map (g i)
def pRow (os : List (Option Int)) : PyData := .list (os.map pO)
theorem lay_rows (l : List (List (Option Int))) : PyData.canLayAll0 (l.map pRow) = true := by
  induction l with
  | nil => rfl
  | cons p ps ih => simp [PyData.canLayAll0, PyData.canLay0, pRow, ih, lay_pOs]
theorem dep_rows (l : List (List (Option Int))) : PyData.depthAll (l.map pRow) ≤ 1 := by
  induction l with
  | nil => exact Nat.zero_le _
  | cons p ps ih =>
    simp [PyData.depthAll, PyData.depth, pRow, dep_pOs]
    exact Nat.max_le.mpr ⟨Nat.le_refl _, ih⟩
theorem LenAt.py {m : Mem} {k n : Nat} {T : Ents} {rf : Nat → Nat} (l : LenAt m k n T rf) : pyOk m (.ref k) = some (.list (((List.range n).map fun i => (List.range n).map fun j => look T (i, j)).map pRow)) := by
  obtain ⟨rows, hrows⟩ : ∃ rows, rows = (List.range n).map fun i => (List.range n).map fun j => look T (i, j) := ⟨_, rfl⟩
  rw [← hrows]
  have e1 : ((List.range n).map fun i => D.ref (rf i)).mapM (toPy m 7) = some (rows.map pRow) := by
    rw [hrows, List.map_map]
    have : ∀ l : List Nat, (∀ i ∈ l, i < n) → (l.map fun i => D.ref (rf i)).mapM (toPy m 7) = some (l.map (pRow ∘ fun i => (List.range n).map fun j => look T (i, j))) := by
      intro l2
      induction l2 with
      | nil => exact fun _ => rfl
      | cons i l2 ih =>
        intro h
        have hi := l.inn i (h i List.mem_cons_self)
        have hi2 : m[rf i]? = some (.lst (((List.range n).map fun j => look T (i, j)).map optD)) := by rw [hi]; simp
        rw [List.map_cons, List.mapM_cons, ih fun j hj => h j (List.mem_cons_of_mem _ hj)]
        have e3 : toPy m 7 (.ref (rf i)) = some (pRow ((List.range n).map fun j => look T (i, j))) := by
          simp only [toPy, listAt, hi2, Option.bind_some, toPys_optD, Option.map_some, pRow]
        rw [e3]
        rfl
    exact this _ fun i hi => List.mem_range.mp hi
  have hd := dep_rows rows
  have hd2 : PyData.depthAll (rows.map pRow) + 1 ≤ 64 := by omega
  have e2 : toPy m 8 (.ref k) = some (.list (rows.map pRow)) := by
    simp only [toPy, listAt, l.out, Option.bind_some, e1, Option.map_some]
  simp [-List.map_map, pyOk, e2, SeqAt.shaped, PyData.canLay0, PyData.depth, lay_rows, hd2]
theorem eq_len {m : Mem} {k k2 n : Nat} {T : Ents} {rf rf2 : Nat → Nat} (l : LenAt m k n T rf) (l2 : LenAt m k2 n T rf2) : eqD m (.ref k) (.ref k2) = some true := eqSame l.py l2.py
section
variable {G : Prog}
/-- a list of rows, made by two comprehensions -/
theorem rows_w {cx : Cx} {F : Fleet} {T : Ents} {m : Mem} {Q : D → Mem → Prop} {r : Sl} {ia ib : Nat} {eit eit2 ev : E} (h8 : F.n ≤ 8) (h1 : 1 ≤ m.length)
    (hit : ∀ m1, (evE cx eit r m1).wp fun d m2 => d = .int F.n ∧ m2 = m1)
    (hit2 : ∀ (i : Nat) m1, (evE cx eit2 ((wipeS r [ia]).set ia (some (.int i))) m1).wp fun d m2 => d = .int F.n ∧ m2 = m1)
    (hv : ∀ (i j : Nat) m1, i < F.n → j < F.n → Pf m m1 → (evE cx ev ((wipeS ((wipeS r [ia]).set ia (some (.int i))) [ib]).set ib (some (.int j))) m1).wp fun d m2 => Pf m1 m2 ∧ d = optD (look T (i, j)))
    (h : ∀ m' k rf, Pf m m' → LenAt m' k F.n T rf → Q (.ref k) m') :
    (evE cx (.lc [ia] .rng [eit] (.name ia) [] (.lc [ib] .rng [eit2] (.name ib) [] ev)) r m).wp Q := by
  have hlim : lim62 (F.n : Int) = true := by simp [lim62]; omega
  refine w_lc ?_
  rw [w_cons]
  refine (hit m).mono fun d m1 ⟨e1, e2⟩ => ?_
  subst e1 e2
  simp [mkIt, hlim]
  refine lcM pfG ((List.range F.n).map fun (j : Nat) => D.int (0 + j)) (fun i acc m2 => ∃ rf : Nat → Nat, acc = (List.range i).map (fun j => .ref (rf j)) ∧ ∀ j < i, m1.length < rf j ∧ m2[rf j]? = some (.lst ((List.range F.n).map fun q => optD (look T (j, q))))) h1 (by simp; omega) (fun _ _ _ => nth_rng) ⟨fun _ => 0, rfl, fun j hj => absurd hj (Nat.not_lt_zero _)⟩ ?_ ?_ ?_
  · rintro i acc m1 o ⟨rf, e, hj⟩
    exact ⟨rf, e, fun j hji => ⟨(hj j hji).1, by rw [List.getElem?_set_ne (by have := (hj j hji).1; omega)]; exact (hj j hji).2⟩⟩
  · rintro i x acc m2 hx ⟨rf, rfl, hj⟩ hm2 hlt
    have hx2 := rng_get (n := F.n) (i := i) (x := x) hx
    have hi := hx2.1
    have hxe := hx2.2
    subst hxe
    refine w_turnL (r1 := (wipeS r [ia]).set ia (some (.int i))) (by simp [asgP]) ?_
    simp only [w_nil, condB, osat_some, if_true]
    with_reducible refine R.wp.mono (Q := fun d m3 => d = .ref m2.length ∧ Pf m2 m3 ∧ m3[m2.length]? = some (.lst ((List.range F.n).map fun q => optD (look T (i, q))))) (w_lc ?_) ?_
    · rw [w_cons]
      refine (hit2 i m2).mono fun d m3 ⟨e3, e4⟩ => ?_
      subst e3 e4
      simp [mkIt, hlim]
      refine lcG pfG ((List.range F.n).map fun (j : Nat) => D.int (0 + j)) (fun q acc => acc = (List.range q).map fun q => optD (look T (i, q))) (by omega) (by simp; omega) (fun _ _ _ => nth_rng) rfl ?_ ?_
      · rintro q x acc m4 hx rfl hm4
        obtain ⟨hq, rfl⟩ := rng_get hx
        refine w_turnL (r1 := (wipeS ((wipeS r [ia]).set ia (some (.int i))) [ib]).set ib (some (.int q))) (by simp [asgP]) ?_
        simp only [w_nil, condB, osat_some, if_true]
        refine (hv i q m4 hi hq (hm2.trans hm4)).mono fun d m5 ⟨hm5, e5⟩ => ?_
        subst e5
        exact ⟨hm5, by simp [List.range_succ]⟩
      · rintro acc m4 rfl hm4 e4
        simp only [List.length_map, List.length_range] at e4
        simp [endIt]
        exact ⟨hm4, by simpa using e4⟩
    · rintro d m3 ⟨rfl, hm3, e3⟩
      refine ⟨hm3, fun j => if j = i then m2.length else rf j, ?_, fun j hji => ?_⟩
      · rw [List.range_succ, List.map_append]
        congr 1
        · apply List.map_congr_left
          intro j hj
          have := List.mem_range.mp hj
          have : ¬ j = i := by omega
          simp [this]
        · simp
      · by_cases hc : j = i
        · subst hc
          simp only [if_true]
          exact ⟨hlt, e3⟩
        · simp only [hc, if_false]
          have := hj j (by omega)
          exact ⟨this.1, hm3.get this.2⟩
  · rintro acc m2 ⟨rf, rfl, hj⟩ hm2 e2
    simp only [List.length_map, List.length_range] at e2 hj
    simp [endIt]
    exact h m2 m1.length rf hm2 ⟨h1, e2, fun i hi => by have := (hj i hi).1; omega, fun i hi => (hj i hi).2⟩
theorem lengths_w (P : Pk G) (h19 : G.fns 19 = some fn19) (h296 : G.fns 296 = some fn296) {n : Nat} {F : Fleet} {m : Mem} {Q : D → Mem → Prop} (ok : F.Ok) (hd : DiagOk F) (h1 : 1 ≤ m.length)
    (h : ∀ m' k rf, Pf m m' → LenAt m' k F.n (chainT F) rf → Q (.ref k) m') : (callN G (n + 6) 296 [F.d] m).wp Q := by
  refine wp_call h296 rfl ?_
  simp only [fn296]
  rw [w_consS, w_ret]
  refine rows_w (F := F) (T := chainT F) ok.n8 h1 (fun m1 => ?_) (fun i m1 => ?_) (fun i j m1 hi hj hm1 => ?_) h
  · simp [startS, dI0]
  · simp [startS, dI0, wipeS]
  · simp [startS, wipeS]
    refine chainlen_w P h19 ok hd hi hj fun m2 hm2 => ⟨hm2, rfl⟩
theorem isN {o : Option Int} : isNon (optD o) = o.isNone := by cases o <;> rfl
def byO (T : Ents) (x : Rope) (a b : Nat) : Option Int := (look T (a, x.1)).bind fun u => (look T (x.2.1, b)).map fun w => u + x.2.2 + w
def minAll (o y : Option Int) : Option Int := match o, y with
  | none, y => y
  | some o, none => some o
  | some o, some y => some (min o y)
theorem least_eq {T : Ents} {x : Rope} {a b : Nat} : leastO T x a b = minAll (look T (a, b)) (byO T x a b) := by
  unfold leastO minAll byO
  rfl
/-- the parts of a list that are not None -/
theorem some_w {cx : Cx} {o y : Option Int} {m : Mem} {Q : D → Mem → Prop} {a0 a1 a2 a3 a6 a7 a8 : Option D} (h1 : 1 ≤ m.length) (h : ∀ m', Pf m m' → m'[m.length]? = some (.lst (([o, y].filterMap id).map .int)) → Q (.ref m.length) m') :
    (evE cx (.lc [8] .any [(.tup [(.var 5), (.var 4)])] (.name 8) [(.cmp .IsNot (.var 8) .non)] (.var 8)) [a0, a1, a2, a3, some (optD y), some (optD o), a6, a7, a8] m).wp Q := by
  refine w_lc ?_
  simp [mkIt, srcOf, two_big]
  refine lcG pfG ([o, y].map optD) (fun i acc => acc = (([o, y].take i).filterMap id).map .int) h1 (by simp) (fun _ _ _ => by simp [It.nth, Src.all]) rfl ?_ ?_
  · rintro i x acc m1 hx rfl hm1
    simp only [List.getElem?_map, Option.map_eq_some_iff] at hx
    obtain ⟨z, hz, rfl⟩ := hx
    refine w_turnL (by simp [wipeS]; rfl) ?_
    rw [take_snoc hz, List.filterMap_append, List.map_append]
    simp [cmpIsNot', isN, condB]
    cases z with
    | none => simp; exact Pf.refl _
    | some v => simp [optD]; exact Pf.refl _
  · rintro acc m1 rfl hm1 e1
    simp only [endIt]
    exact h m1 hm1 (by simpa using e1)
theorem leastO_w (h298 : G.fns 298 = some fn298) {n k a b N : Nat} {T : Ents} {rf : Nat → Nat} {x : Rope} {m : Mem} {Q : D → Mem → Prop} (l : LenAt m k N T rf) (h1 : 1 ≤ m.length) (ha : a < N) (hb : b < N) (hf : x.1 < N) (hr : x.2.1 < N) (hi : ∀ v, leastO T x a b = some v → v ≤ 9999)
    (h : ∀ m', Pf m m' → Q (optD (leastO T x a b)) m') : (callN G (n + 1) 298 [.ref k, .int a, .int b, ropeD x] m).wp Q := by
  refine wp_call h298 rfl ?_
  have hbig : big = 1000000 := rfl
  simp only [fn298]
  rw [w_consS]
  simp [startS, rope0, rope1, l.get1 ha, l.get2 ha hf, l.get1 hr, l.get2 hr hb, setMany, -thenNx]
  rw [thenNx, w_consS]
  have e1 : (evE ⟨callN G n, G.meth, G.init⟩ (.ite (.or (.cmp .Is (.var 6) .non) (.cmp .Is (.var 7) .non)) .non (.bin .Add (.bin .Add (.var 6) (.idx (.var 3) (.int 2))) (.var 7)))
      [some (.ref k), some (.int a), some (.int b), some (ropeD x), none, none, some (optD (look T (a, x.1))), some (optD (look T (x.2.1, b))), none] m).wp fun d m1 => d = optD (byO T x a b) ∧ m1 = m := by
    unfold byO
    cases c1 : look T (a, x.1) with
    | none => simp [cmpIs', isN, boolOf, optD, isNon]
    | some u =>
      cases c2 : look T (x.2.1, b) with
      | none => simp [cmpIs', isN, boolOf, optD, isNon]
      | some w => simp [cmpIs', isN, boolOf, optD, isNon, rope2, binAdd]
  rw [w_asg]
  refine e1.mono fun d m1 ⟨q1, q2⟩ => ?_
  subst q1 q2
  simp [asgT, asgP, -thenNx]
  rw [thenNx, w_consS]
  simp [l.get1 ha, l.get2 ha hb, asgT, asgP, -thenNx]
  rw [thenNx]
  rw [least_eq] at h hi
  generalize look T (a, b) = o at *
  generalize byO T x a b = y at *
  rw [w_consS, w_ret, w_ite]
  cases o with
  | none =>
    cases y with
    | none =>
      simp [cmpIsNot', isN, boolOf, optD, isNon]
      exact h m1 (Pf.refl _)
    | some v =>
      simp only [w_or, w_cmp, w_var, w_non, List.getElem?_cons_zero, List.getElem?_cons_succ, Option.bind_some, id, osat_some, cmpIsNot', isN, boolOf, Option.isNone_none, Option.isNone_some, Bool.not_true, Bool.not_false, Bool.false_eq_true, if_false, if_true, w_blt, w_cons, w_bin, w_nil]
      refine some_w h1 fun m2 hm2 e2 => ?_
      simp at e2
      have g0 : (m2 ++ [O.lst [.int 9999]])[m1.length]? = some (.lst [.int v]) := (Pf.app _ _).get e2
      have g1 : (m2 ++ [O.lst [.int 9999]])[m2.length]? = some (.lst [.int 9999]) := get0
      have hl : (1 + 1 : Nat) ≤ big := by omega
      have hl1 : (1 : Nat) ≤ big := by omega
      have eb : binV .Add (.ref m1.length) (.ref m2.length) (m2 ++ [O.lst [.int 9999]]) = .ok (.ref (m2 ++ [O.lst [.int 9999]]).length) ((m2 ++ [O.lst [.int 9999]]) ++ [.lst [.int v, .int 9999]]) := by
        simp only [binV, g0, g1, List.length_cons, List.length_nil, Nat.zero_add, hl, if_true]
        rfl
      have em : ∀ M : Mem, bltV .min [.ref M.length] (M ++ [.lst [.int v, .int 9999]]) = .ok (.int (min v 9999)) (M ++ [.lst [.int v, .int 9999]]) := fun M => by
        simp [bltV, listAt, intsOf, intOf]
      simp only [w_lst, w_cons, w_int, w_nil, List.length_cons, List.length_nil, Nat.zero_add, hl1, true_and, eb, wpOk, em]
      have := hi v rfl
      rw [show min v 9999 = v by omega]
      exact h _ ((hm2.trans (Pf.app _ _)).trans (Pf.app _ _))
  | some u =>
    cases y with
    | none =>
      simp only [w_or, w_cmp, w_var, w_non, List.getElem?_cons_zero, List.getElem?_cons_succ, Option.bind_some, id, osat_some, cmpIsNot', isN, boolOf, Option.isNone_none, Option.isNone_some, Bool.not_true, Bool.not_false, Bool.false_eq_true, if_false, if_true, w_blt, w_cons, w_bin, w_nil]
      refine some_w h1 fun m2 hm2 e2 => ?_
      simp at e2
      have g0 : (m2 ++ [O.lst [.int 9999]])[m1.length]? = some (.lst [.int u]) := (Pf.app _ _).get e2
      have g1 : (m2 ++ [O.lst [.int 9999]])[m2.length]? = some (.lst [.int 9999]) := get0
      have hl : (1 + 1 : Nat) ≤ big := by omega
      have hl1 : (1 : Nat) ≤ big := by omega
      have eb : binV .Add (.ref m1.length) (.ref m2.length) (m2 ++ [O.lst [.int 9999]]) = .ok (.ref (m2 ++ [O.lst [.int 9999]]).length) ((m2 ++ [O.lst [.int 9999]]) ++ [.lst [.int u, .int 9999]]) := by
        simp only [binV, g0, g1, List.length_cons, List.length_nil, Nat.zero_add, hl, if_true]
        rfl
      have em : ∀ M : Mem, bltV .min [.ref M.length] (M ++ [.lst [.int u, .int 9999]]) = .ok (.int (min u 9999)) (M ++ [.lst [.int u, .int 9999]]) := fun M => by
        simp [bltV, listAt, intsOf, intOf]
      simp only [w_lst, w_cons, w_int, w_nil, List.length_cons, List.length_nil, Nat.zero_add, hl1, true_and, eb, wpOk, em]
      have := hi u rfl
      rw [show min u 9999 = u by omega]
      exact h _ ((hm2.trans (Pf.app _ _)).trans (Pf.app _ _))
    | some v =>
      simp only [w_or, w_cmp, w_var, w_non, List.getElem?_cons_zero, List.getElem?_cons_succ, Option.bind_some, id, osat_some, cmpIsNot', isN, boolOf, Option.isNone_none, Option.isNone_some, Bool.not_true, Bool.not_false, Bool.false_eq_true, if_false, if_true, w_blt, w_cons, w_bin, w_nil]
      refine some_w h1 fun m2 hm2 e2 => ?_
      simp at e2
      have g0 : (m2 ++ [O.lst [.int 9999]])[m1.length]? = some (.lst [.int u, .int v]) := (Pf.app _ _).get e2
      have g1 : (m2 ++ [O.lst [.int 9999]])[m2.length]? = some (.lst [.int 9999]) := get0
      have hl : (1 + 1 + 1 : Nat) ≤ big := by omega
      have hl1 : (1 : Nat) ≤ big := by omega
      have eb : binV .Add (.ref m1.length) (.ref m2.length) (m2 ++ [O.lst [.int 9999]]) = .ok (.ref (m2 ++ [O.lst [.int 9999]]).length) ((m2 ++ [O.lst [.int 9999]]) ++ [.lst [.int u, .int v, .int 9999]]) := by
        simp only [binV, g0, g1, List.length_cons, List.length_nil, Nat.zero_add, hl, if_true]
        rfl
      have em : ∀ M : Mem, bltV .min [.ref M.length] (M ++ [.lst [.int u, .int v, .int 9999]]) = .ok (.int (min (min u v) 9999)) (M ++ [.lst [.int u, .int v, .int 9999]]) := fun M => by
        simp [bltV, listAt, intsOf, intOf]
      simp only [w_lst, w_cons, w_int, w_nil, List.length_cons, List.length_nil, Nat.zero_add, hl1, true_and, eb, wpOk, em]
      have := hi (min u v) rfl
      rw [show min (min u v) 9999 = min u v by omega]
      exact h _ ((hm2.trans (Pf.app _ _)).trans (Pf.app _ _))
/-- chains one behind the other -/
theorem parts_w (h299 : G.fns 299 = some fn299) {n k N : Nat} {T : Ents} {rf : Nat → Nat} {m : Mem} {Q : D → Mem → Prop} (l : LenAt m k N T rf) (h8 : N ≤ 8) (tri : ∀ i j q a b, look T (i, j) = some a → look T (j, q) = some b → ∃ c, look T (i, q) = some c ∧ c ≤ a + b) (h : Q (.bl true) m) :
    (callN G (n + 1) 299 [.ref k] m).wp Q := by
  refine wp_call h299 rfl ?_
  have hlim : lim62 (N : Int) = true := by simp [lim62]; omega
  have bl : bltV .len [.ref k] m = .ok (.int N) m := by simp [bltV, l.out]
  simp only [fn299]
  rw [w_consS]
  refine w_forS ?_
  simp [startS, bl, mkIt, hlim, endIt, -thenNx]
  refine ws_for (fun i r m1 => m1 = m ∧ ∃ a1 a2 a3 a4 a5 a6, r = [some (.ref k), a1, a2, a3, a4, a5, a6]) ((List.range N).map fun (j : Nat) => D.int (0 + j)) (fun _ _ _ _ => nth_rng) ⟨rfl, _, _, _, _, _, _, rfl⟩ (fu_of (by simp; omega)) ?_ ?_
  · rintro i r m1 x hx ⟨rfl, a1, a2, a3, a4, a5, a6, rfl⟩
    obtain ⟨hi, rfl⟩ := rng_get hx
    refine ⟨_, by simp; rfl, ?_⟩
    rw [w_consS]
    refine w_forS ?_
    simp [bl, mkIt, hlim, endIt, -thenNx]
    refine ws_for (fun j r m2 => m2 = m1 ∧ ∃ a2 a3 a4 a5 a6, r = [some (.ref k), some (.int (i : Nat)), a2, a3, a4, a5, a6]) ((List.range N).map fun (j : Nat) => D.int (0 + j)) (fun _ _ _ _ => nth_rng) ⟨rfl, _, _, _, _, _, rfl⟩ (fu_of (by simp; omega)) ?_ ?_
    · rintro j r m2 x hx ⟨rfl, a2, a3, a4, a5, a6, rfl⟩
      obtain ⟨hj, rfl⟩ := rng_get hx
      refine ⟨_, by simp; rfl, ?_⟩
      rw [w_consS]
      refine w_forS ?_
      simp [bl, mkIt, hlim, endIt, -thenNx]
      refine ws_for (fun q r m3 => m3 = m2 ∧ ∃ a3 a4 a5 a6, r = [some (.ref k), some (.int (i : Nat)), some (.int (j : Nat)), a3, a4, a5, a6]) ((List.range N).map fun (j : Nat) => D.int (0 + j)) (fun _ _ _ _ => nth_rng) ⟨rfl, _, _, _, _, rfl⟩ (fu_of (by simp; omega)) ?_ ?_
      · rintro q r m3 x hx ⟨rfl, a3, a4, a5, a6, rfl⟩
        obtain ⟨hq, rfl⟩ := rng_get hx
        refine ⟨_, by simp; rfl, ?_⟩
        rw [w_consS]
        simp [l.get1 hi, l.get1 hj, l.get2 hi hj, l.get2 hj hq, l.get2 hi hq, setMany, asgT, asgP, cmpIsNot', cmpIs', isN, boolOf]
        cases c1 : look T (i, j) with
        | none => simp
        | some a =>
          cases c2 : look T (j, q) with
          | none => simp
          | some b =>
            obtain ⟨c, c3, c4⟩ := tri _ _ _ _ _ c1 c2
            have : ¬ c > a + b := by omega
            simp [c3, optD, isNon, binAdd, cmpGt, this, boolOf]
      · rintro r m3 ⟨rfl, a3, a4, a5, a6, rfl⟩
        simp
    · rintro r m2 ⟨rfl, a2, a3, a4, a5, a6, rfl⟩
      simp
  · rintro r m1 ⟨rfl, a1, a2, a3, a4, a5, a6, rfl⟩
    simp
    exact h
end
end HR

set_option linter.all false
set_option maxRecDepth 100000
set_option maxHeartbeats 4000000
/-! HR, mirror 53: the law k22. -/
namespace HR
open PySem
def body300 : List HR.S := match fn300.body with
  | _ :: .forS _ _ _ b :: _ => b
  | _ => []
def if300 : List HR.S := match body300.getLast? with
  | some (.ifS _ b _) => b
  | _ => []
structure Q22 (G : Prog) : Prop where
  pk : Pk G
  f12 : G.fns 12 = some fn12
  f19 : G.fns 19 = some fn19
  f20 : G.fns 20 = some fn20
  f21 : G.fns 21 = some fn21
  f22 : G.fns 22 = some fn22
  f50 : G.fns 50 = some fn50
  f51 : G.fns 51 = some fn51
  f224 : G.fns 224 = some fn224
  f280 : G.fns 280 = some fn280
  f296 : G.fns 296 = some fn296
  f297 : G.fns 297 = some fn297
  f298 : G.fns 298 = some fn298
  f299 : G.fns 299 = some fn299
theorem eqBool {m : Mem} {a b : Bool} : eqD m (.bl a) (.bl b) = some (a == b) := by
  have e : ∀ c : Bool, pyOk m (.bl c) = some (.bool c) := fun c => by simp [pyOk, toPy, SeqAt.shaped, PyData.canLay0, PyData.depth]
  simp only [eqD, e, Option.bind_some]
  rfl
theorem neBool {m : Mem} {a : Bool} : cmpV .NotEq (.bl a) (.bl a) m = some false := by
  simp only [cmpV, eqBool]
  simp
theorem in_nats {m : Mem} {k q : Nat} {c : List Nat} (h : m[k]? = some (.lst (c.map natD))) (hq : q ∈ c) : cmpV .NotIn (.int (q : Int)) (.ref k) m = some false := by
  have e1 : ((c.map natD).all isFlat) = true := by
    rw [List.all_eq_true]
    intro x hx
    obtain ⟨y, _, rfl⟩ := List.mem_map.mp hx
    rfl
  have e2 : ((c.map natD).any fun z => eqF z (.int (q : Int))) = true := by
    rw [List.any_eq_true]
    exact ⟨natD q, List.mem_map.mpr ⟨q, hq, rfl⟩, by simp [natD, eqF]⟩
  have e3 : isFlat (.int (q : Int)) = true := rfl
  simp only [cmpV, inD, listAt, h, e1, e2, e3, Bool.and_self, if_true, Option.map_some]
  rfl
theorem rp_plus {F : Fleet} {x : Rope} {k : Nat} (h : k < F.rs.length) : rp (plusF F x).rs k = rp F.rs k := by
  simp [rp, plusF, List.getD, List.getElem?_append_left h]
theorem circ_has {F : Fleet} {x : Rope} (ok : F.Ok) (hd : DiagOk F) {c : List Nat} (h : IsCirc (plusF F x).rs c) : F.rs.length ∈ c := by
  refine Classical.byContradiction fun no => ?_
  have lt : ∀ k ∈ c, k < F.rs.length := fun k hk => by
    have := h.w.ix k hk
    simp [plusF] at this
    have : k ≠ F.rs.length := fun z => no (z ▸ hk)
    omega
  have gd : ∀ j, j < c.length → rp (plusF F x).rs (c.getD j 0) = rp F.rs (c.getD j 0) := fun j hj => by
    have e : c.getD j 0 = c[j] := by simp [List.getD, List.getElem?_eq_getElem hj]
    rw [e]
    exact rp_plus (lt _ (List.getElem_mem _))
  have hn := h.ne
  refine no_circ ok hd (c := c) ⟨h.ne, ⟨lt, fun j hj => ?_⟩, ?_, ?_⟩
  · rw [← gd j (by omega), ← gd (j + 1) hj]
    exact h.w.adj j hj
  · rw [← gd _ (by omega), ← gd 0 (by omega)]
    exact h.cl
  · have : lenS F.rs c = lenS (plusF F x).rs c := by
      unfold lenS
      congr 1
      exact List.map_congr_left fun k hk => by rw [rp_plus (lt k hk)]
    rw [this]
    exact h.neg
theorem bad_iff {F : Fleet} {x : Rope} (ok : F.Ok) (okx : RopeOk F.n x) (h40 : F.rs.length < 40) {π : Nat → Int} (v : Valid F π) : Bad F x ↔ ¬ DiagOk (plusF F x) := by
  constructor
  · intro h hd
    obtain ⟨p, v'⟩ := diag_valid (plus_ok ok okx h40) hd
    exact bad_no ok h v'
  · intro h
    refine Classical.byContradiction fun nb => ?_
    obtain ⟨p', v'⟩ := not_bad ok okx v nb
    exact h (chain_ok (plus_ok ok okx h40) v')
section
variable {G : Prog}
/-- no chain from a barge to itself but the empty one -/
theorem diag0_w {cx : Cx} {F : Fleet} {T : Ents} {k : Nat} {rf : Nat → Nat} {m : Mem} {Q : D → Mem → Prop} {a0 a1 a2 a3 a6 a7 a8 a9 a10 a11 a12 a13 a14 a15 a16 a17 a18 : Option D} (h1 : 1 ≤ m.length) (h8 : F.n ≤ 8) (l : LenAt m k F.n T rf) (hz : ∀ i < F.n, look T (i, i) = some 0)
    (h : ∀ m', Pf m m' → m'[m.length]? = some (.lst []) → Q (.ref m.length) m') :
    (evE cx (.lc [16] .rng [(.var 4)] (.name 16) [(.cmp .NotEq (.idx (.idx (.var 5) (.var 16)) (.var 16)) (.int 0))] (.var 16)) [a0, a1, a2, a3, some (.int F.n), some (.ref k), a6, a7, a8, a9, a10, a11, a12, a13, a14, a15, a16, a17, a18] m).wp Q := by
  have hlim : lim62 (F.n : Int) = true := by simp [lim62]; omega
  refine w_lc ?_
  simp [mkIt, hlim]
  refine lcG pfG ((List.range F.n).map fun (j : Nat) => D.int (0 + j)) (fun i acc => acc = []) h1 (by simp; omega) (fun _ _ _ => nth_rng) rfl ?_ ?_
  · rintro i x acc m1 hx rfl hm1
    obtain ⟨hi, rfl⟩ := rng_get hx
    have l1 := l.grow pfG hm1
    refine w_turnL (by simp [wipeS]; rfl) ?_
    simp [l1.get1 hi, l1.get2 hi hi, hz i hi, optD, cmpNe, condB]
    exact Pf.refl _
  · rintro acc m1 rfl hm1 e1
    simp only [endIt]
    exact h m1 hm1 e1
theorem neEmp {m : Mem} {a b : Nat} (h : m[a]? = some (.lst [])) (h2 : m[b]? = some (.lst [])) : cmpV .NotEq (.ref a) (.ref b) m = some false := by
  have := eq_emp (l := []) h h2
  simp only [cmpV, this]
  rfl
theorem cmpLe {m : Mem} {i j : Int} : cmpV .LtE (.int i) (.int j) m = some (decide (i ≤ j)) := rfl
/-- a rope more -/
theorem if300_w (X : Q22 G) {n f r k : Nat} {ns : List Int} {F : Fleet} {π : Nat → Int} {rf : Nat → Nat} {m : Mem} {Q : Fl → Sl → Mem → Prop} {a2 a8 a9 a10 a11 a12 a13 a14 a15 a16 a17 a18 : Option D} (hr : RowAt ns m) (ok : F.Ok) (v : Valid F π) (hf : f < F.n) (hrr : r < F.n) (hne : f ≠ r) (h40 : F.rs.length < 40)
    (l : LenAt m k F.n (chainT F) rf)
    (h : ∀ m' b9 b10 b11 b12 b13 b14 b15, RowAt ns m' → Q .nx [some (.scr ns), some (.ref 0), a2, some F.d, some (.int F.n), some (.ref k), some (.int f), some (.int r), a8, b9, b10, b11, b12, b13, b14, b15, a16, a17, a18] m') :
    (evSs ⟨callN G (n + 7), G.meth, G.init⟩ if300 [some (.scr ns), some (.ref 0), a2, some F.d, some (.int F.n), some (.ref k), some (.int f), some (.int r), a8, a9, a10, a11, a12, a13, a14, a15, a16, a17, a18] m).ws Q := by
  have g := gwG ns
  have h8 := ok.n8
  have hbig : big = 1000000 := rfl
  have hd := chain_ok ok v
  simp only [if300, body300, fn300, List.getLast?_cons_cons, List.getLast?_singleton]
  rw [w_consS]
  simp [-thenNx]
  refine taken_w X.f280 (k := 60) hr (by omega) (by omega) fun t m1 ht g1 hr1 => ?_
  obtain ⟨x, hx⟩ : ∃ x : Rope, x = (f, r, (t : Int) - 30) := ⟨_, rfl⟩
  have okx : RopeOk F.n x := by
    subst hx
    exact ⟨hf, hrr, hne, by simp; omega, by simp; omega⟩
  have eX : D.tup [.int (f : Int), .int (r : Int), .int ((t : Int) - 30)] = ropeD x := by rw [hx]; rfl
  have l1 := l.grow g g1
  have b3 : (1 + 1 + 1 : Nat) ≤ big := by omega
  simp [binSub, asgT, asgP, three_big, eX, -thenNx]
  rw [thenNx, w_consS]
  have ok' := plus_ok ok okx h40
  have hz : (F.rs.map ropeD).length + [ropeD x].length ≤ big := by simp; omega
  have ea : ∀ m, binV .Add (.tup (F.rs.map ropeD)) (.tup [ropeD x]) m = .ok (.tup ((plusF F x).rs.map ropeD)) m := fun m => by
    simp only [binV, hz, if_true]
    simp [plusF]
  have ed : D.tup [.int (F.n : Int), .tup ((plusF F x).rs.map ropeD)] = (plusF F x).d := rfl
  have b1 : (0 + 1 : Nat) ≤ big := by omega
  have one_big : (1 : Nat) ≤ big := by omega
  simp [dI1, one_big, two_big, ea, ed, l1.get1 hrr, l1.get2 hrr hf, setMany, -thenNx]
  rw [thenNx, w_consS]
  have xr : x.2.1 = r := by rw [hx]
  have xf : x.1 = f := by rw [hx]
  -- is the rope too short
  obtain ⟨B, hB⟩ : ∃ B : Bool, B = true ↔ Bad F x := by
    by_cases c : Bad F x
    · exact ⟨true, by simp [c]⟩
    · exact ⟨false, by simp [c]⟩
  have hbad : (evE ⟨callN G (n + 7), G.meth, G.init⟩ (.and (.cmp .IsNot (.var 13) .non) (.cmp .Lt (.bin .Add (.var 13) (.idx (.var 9) (.int 2))) (.int 0)))
      [some (.scr ns), some (.ref 0), a2, some F.d, some (.int F.n), some (.ref k), some (.int f), some (.int r), a8, some (ropeD x), a10, a11, some (plusF F x).d, some (optD (look (chainT F) (r, f))), a14, a15, a16, a17, a18] m1).wp fun d m2 => d = .bl B ∧ m2 = m1 := by
    cases c : look (chainT F) (r, f) with
    | none =>
      have : B = false := by
        cases hb : B with
        | false => rfl
        | true =>
          obtain ⟨b, e, _⟩ := hB.mp hb
          rw [xr, xf, c] at e; cases e
      simp [cmpIsNot', isN, boolOf, this]
    | some b =>
      have : B = decide (b + x.2.2 < 0) := by
        rw [Bool.eq_iff_iff, hB, decide_eq_true_iff]
        constructor
        · rintro ⟨b', e, e2⟩
          rw [xr, xf, c] at e; cases e
          exact e2
        · intro z
          exact ⟨b, by rw [xr, xf]; exact c, z⟩
      simp [cmpIsNot', optD, isNon, boolOf, rope2, binAdd, cmpLtI, this]
  rw [w_asg]
  refine hbad.mono fun d m2 ⟨q1, q2⟩ => ?_
  subst q1 q2
  simp [asgT, asgP, -thenNx]
  rw [thenNx, w_consS, w_asg, w_call, w_cons]
  simp only [w_var, List.getElem?_cons_zero, List.getElem?_cons_succ, Option.bind_some, id, osat_some, w_nil]
  have p1 : 1 ≤ m2.length := row_pos hr1
  have rest : ∀ (m3 : Mem) (C : D), RowAt ns m3 → Gw ns m2 m3 → ((C = .non ∧ B = false) ∨ (∃ kc c, C = .ref kc ∧ 1 ≤ kc ∧ B = true ∧ IsCirc (plusF F x).rs c ∧ c.length ≤ 8 ∧ m3[kc]? = some (.lst (c.map natD)))) →
      (evSs ⟨callN G (n + 7), G.meth, G.init⟩ (if300.drop 4) [some (.scr ns), some (.ref 0), a2, some F.d, some (.int F.n), some (.ref k), some (.int f), some (.int r), a8, some (ropeD x), some (.bl B), some C, some (plusF F x).d, some (optD (look (chainT F) (r, f))), a14, a15, a16, a17, a18] m3).ws Q := by
    intro m3 C hr3 g3 hC
    have p3 : 1 ≤ m3.length := row_pos hr3
    have l3 := l1.grow g g3
    have hBd : B = true ↔ ¬ DiagOk (plusF F x) := hB.trans (bad_iff ok okx h40 v)
    simp only [if300, body300, fn300, List.getLast?_cons_cons, List.getLast?_singleton, List.drop_succ_cons, List.drop_zero]
    rw [w_consS]
    simp [-thenNx]
    refine contr_w X.pk X.f19 X.f297 ok' p3 hBd fun m4 hm4 => ?_
    have hCn : isNon C = !B := by
      rcases hC with ⟨rfl, e⟩ | ⟨kc, c, rfl, _, e, _⟩
      · rw [e]; rfl
      · rw [e]; rfl
    simp [neBool, boolOf, cmpIsNot', hCn, -thenNx]
    rw [thenNx, w_consS]
    have l4 := l3.grow pfG hm4
    have p4 : 1 ≤ m4.length := Nat.le_trans p3 hm4.len
    have r4 : RowAt ns m4 := hm4.gw.row hr3
    have step6 : ∀ Q6 : Bool → Mem → Prop, (∀ m5, Pf m4 m5 → Q6 false m5) → (tstE ⟨callN G (n + 7), G.meth, G.init⟩ (.and (.var 10) (.or (.not (.call 22 [(.var 12), (.var 11)])) (.cmp .NotIn (.blt .len [(.idx (.var 3) (.int 1))]) (.var 11))))
        [some (.scr ns), some (.ref 0), a2, some F.d, some (.int F.n), some (.ref k), some (.int f), some (.int r), a8, some (ropeD x), some (.bl B), some C, some (plusF F x).d, some (optD (look (chainT F) (r, f))), a14, a15, a16, a17, a18] m4).wp Q6 := by
      intro Q6 h6
      rcases hC with ⟨rfl, e⟩ | ⟨kc, c, rfl, kc1, e, hc, hc8, hkc⟩
      · simp [e, boolOf]
        exact h6 m4 (Pf.refl _)
      · have hk4 := hm4.get hkc
        simp [e, boolOf]
        refine iscirc_w X.pk X.f22 ok' kc1 hc hc8 hk4 fun m5 hm5 => ?_
        have bl : bltV .len [.tup (F.rs.map ropeD)] m5 = .ok (.int F.rs.length) m5 := by simp [bltV]
        simp [boolOf, dI1, bl, in_nats (hm5.get hk4) (circ_has ok hd hc)]
        exact h6 m5 hm5
    rw [w_ifS]
    refine step6 _ fun m5 hm5 => ?_
    simp [-thenNx]
    rw [thenNx, w_consS]
    have l5 := l4.grow pfG hm5
    have r5 : RowAt ns m5 := hm5.gw.row r4
    have p5 : 1 ≤ m5.length := row_pos r5
    simp [-thenNx]
    refine implied_w X.pk X.f12 X.f50 X.f51 ok hd okx fun m6 hm6 => ?_
    have l6 := l5.grow pfG hm6
    have r6 : RowAt ns m6 := hm6.gw.row r5
    have p6 : 1 ≤ m6.length := row_pos r6
    have himp : impB (chainT F) x = match look (chainT F) (f, r) with | none => false | some d => decide (d ≤ x.2.2) := by
      unfold impB
      rw [xf, xr]
      cases look (chainT F) (f, r) <;> rfl
    have tail : (evSs ⟨callN G (n + 7), G.meth, G.init⟩ (if300.drop 7) [some (.scr ns), some (.ref 0), a2, some F.d, some (.int F.n), some (.ref k), some (.int f), some (.int r), a8, some (ropeD x), some (.bl B), some C, some (plusF F x).d, some (optD (look (chainT F) (r, f))), a14, a15, a16, a17, a18] m6).ws Q := by
      simp only [if300, body300, fn300, List.getLast?_cons_cons, List.getLast?_singleton, List.drop_succ_cons, List.drop_zero]
      rw [w_consS]
      cases hb : B with
      | true =>
        simp [boolOf]
        exact h _ _ _ _ _ _ _ _ r6
      | false =>
        have hd' : DiagOk (plusF F x) := by
          refine Classical.byContradiction fun z => ?_
          rw [hBd.mpr z] at hb
          cases hb
        obtain ⟨p', v'⟩ := diag_valid ok' hd'
        simp [boolOf, -thenNx]
        refine lengths_w X.pk X.f19 X.f296 ok' hd' p6 fun m7 k7 rf7 hm7 l7 => ?_
        rw [thenNx, w_consS, w_asg]
        have l67 := l6.grow pfG hm7
        have p7 : 1 ≤ m7.length := Nat.le_trans p6 hm7.len
        refine rows_w (F := F) (T := chainT (plusF F x)) h8 p7 (fun m8 => by simp) (fun i m8 => by simp [wipeS]) (fun i j m8 hi hj hm8 => ?_) fun m8 k8 rf8 hm8 l8 => ?_
        · simp [wipeS]
          refine leastO_w X.f298 (l67.grow pfG hm8) (Nat.le_trans p7 hm8.len) hi hj okx.f okx.r (fun v0 hv0 => ?_) fun m9 hm9 => ?_
          · have := least_hi ok okx v hv0
            omega
          · exact ⟨hm9, by rw [least_ok ok okx h40 v v']⟩
        · simp [asgT, asgP, -thenNx]
          rw [thenNx, w_consS]
          have e7 : LenAt m8 k7 F.n (chainT (plusF F x)) rf7 := (l7.grow pfG hm8 : LenAt m8 k7 (plusF F x).n _ _)
          have := eq_len e7 l8
          simp [cmpV, this, boolOf]
          rw [← hb]
          exact h _ _ _ _ _ _ _ _ ((hm7.trans hm8).gw.row r6)
    simp only [if300, body300, fn300, List.getLast?_cons_cons, List.getLast?_singleton, List.drop_succ_cons, List.drop_zero] at tail
    cases c : look (chainT F) (f, r) with
    | none =>
      rw [c] at himp
      simp [l6.get1 hf, l6.get2 hf hrr, c, cmpIsNot', isN, boolOf, himp, neBool, -thenNx]
      rw [thenNx]
      exact tail
    | some d =>
      rw [c] at himp
      simp [l6.get1 hf, l6.get2 hf hrr, c, cmpIsNot', optD, isNon, boolOf, rope2, cmpLe, himp, neBool, -thenNx]
      rw [thenNx]
      exact tail
  refine find_w X.pk X.f20 X.f21 ok' p1 (fun m3 hm3 no => ?_) fun m3 kc c hm3 hc hc8 hkc => ?_
  · obtain ⟨p', v'⟩ := no_closed ok' no
    have : B = false := by
      cases hb : B with
      | false => rfl
      | true => exact (bad_no ok (hB.mp hb) v').elim
    simp [asgT, asgP, -thenNx]
    rw [thenNx]
    exact rest m3 .non (hm3.gw.row hr1) hm3.gw (.inl ⟨rfl, this⟩)
  · have nd : ¬ DiagOk (plusF F x) := fun z => no_circ ok' z hc
    have : B = true := by
      rw [hB]
      refine Classical.byContradiction fun nb => ?_
      obtain ⟨p', v'⟩ := not_bad ok okx v nb
      exact nd (chain_ok ok' v')
    have kc1 : 1 ≤ kc := by
      cases kc with
      | zero =>
        obtain ⟨i, s, t, e⟩ := hm3.gw.row hr1
        rw [hkc] at e
        exfalso
        have hn := hc.ne
        cases hcc : c with
        | nil => rw [hcc] at hn; simp at hn
        | cons q qs => rw [hcc] at e; simp [natD] at e
      | succ q => omega
    simp [asgT, asgP, -thenNx]
    rw [thenNx]
    exact rest m3 _ (hm3.gw.row hr1) hm3.gw (.inr ⟨kc, c, rfl, kc1, this, hc, hc8, hkc⟩)
theorem turn300 (X : Q22 G) {n : Nat} {ns : List Int} {m : Mem} {Q : Fl → Sl → Mem → Prop} {a2 a3 a4 a5 a6 a7 a8 a9 a10 a11 a12 a13 a14 a15 a16 a17 a18 : Option D} (hr : RowAt ns m)
    (h : ∀ m' b3 b4 b5 b6 b7 b8 b9 b10 b11 b12 b13 b14 b15 b16 b17 b18, RowAt ns m' → Q .nx [some (.scr ns), some (.ref 0), a2, b3, b4, b5, b6, b7, b8, b9, b10, b11, b12, b13, b14, b15, b16, b17, b18] m') :
    (evSs ⟨callN G (n + 7), G.meth, G.init⟩ body300 [some (.scr ns), some (.ref 0), a2, a3, a4, a5, a6, a7, a8, a9, a10, a11, a12, a13, a14, a15, a16, a17, a18] m).ws Q := by
  have g := gwG ns
  simp only [body300, fn300]
  rw [w_consS]
  simp [-thenNx]
  refine fleetM_w X.f280 X.f224 (M := 6) (by omega) (by omega) hr fun F π m1 g1 hr1 ok v p0 p1 h6 => ?_
  have h8 := ok.n8
  have hd := chain_ok ok v
  have hlr := ok.len
  have m1p : 1 ≤ m1.length := row_pos hr1
  rw [thenNx, w_consS, w_asg, w_tup, w_cons]
  simp [dI0, -thenNx]
  refine lengths_w X.pk X.f19 X.f296 ok hd m1p fun m2 k rf hm2 l2 => ?_
  have hr2 : RowAt ns m2 := hm2.gw.row hr1
  have m2p : 1 ≤ m2.length := row_pos hr2
  simp [asgT, asgP2, two_big, -thenNx]
  rw [thenNx, w_consS, w_ifS, w_tst, w_or, w_cmp, w_call, w_cons]
  simp only [w_var, w_non, List.getElem?_cons_zero, List.getElem?_cons_succ, Option.bind_some, id, osat_some, w_nil]
  refine find_w X.pk X.f20 X.f21 ok m2p (fun m3 hm3 _ => ?_) fun m3 kc c hm3 hc _ _ => (no_circ ok hd hc).elim
  have hr3 : RowAt ns m3 := hm3.gw.row hr2
  have m3p : 1 ≤ m3.length := row_pos hr3
  have l3 := l2.grow pfG hm3
  simp only [cmpIsNot', isNon, Bool.not_true, osat_some, boolOf, Bool.false_eq_true, if_false, w_cmp, w_lst, w_nil]
  refine diag0_w m3p h8 l3 (fun i hi => chain_diag ok v hi) fun m4 hm4 e4 => ?_
  have e5 : (m4 ++ [O.lst []])[m3.length]? = some (.lst []) := (Pf.app _ _).get e4
  have e6 : (m4 ++ [O.lst []])[m4.length]? = some (.lst []) := get0
  simp [neEmp e5 e6, boolOf, -thenNx]
  rw [thenNx, w_consS]
  have hm5 : Pf m3 (m4 ++ [O.lst []]) := hm4.trans (Pf.app _ _)
  obtain ⟨m5, em5⟩ : ∃ m5, m5 = m4 ++ [O.lst []] := ⟨_, rfl⟩
  rw [← em5] at hm5 ⊢
  have l5 := l3.grow pfG hm5
  have hr5 : RowAt ns m5 := hm5.gw.row hr3
  refine w_forS ?_
  simp [dI1, mkIt, srcOf, endIt, -thenNx]
  refine ws_for (fun i r m6 => m6 = m5 ∧ ∃ a6 a7 a8, r = [some (.scr ns), some (.ref 0), a2, some F.d, some (.int F.n), some (.ref k), a6, a7, a8, a9, a10, a11, a12, a13, a14, a15, a16, a17, a18]) (F.rs.map ropeD) (fun _ _ _ _ => by simp [It.nth, Src.all]) ⟨rfl, _, _, _, rfl⟩ (fu_of (by simp; omega)) ?_ ?_
  · rintro i r m6 x hx ⟨rfl, a6, a7, a8, rfl⟩
    simp only [List.getElem?_map, Option.map_eq_some_iff] at hx
    obtain ⟨q, hq, rfl⟩ := hx
    have hmem := List.mem_of_getElem? hq
    have okq := ok.rp q hmem
    obtain ⟨d, hd1, hd2⟩ := chain_rope hmem
    refine ⟨_, by simp [ropeD, asgP, asgPs]; rfl, ?_⟩
    have : ¬ d > q.2.2 := by omega
    simp [l5.get1 okq.f, l5.get2 okq.f okq.r, hd1, optD, cmpIs', isNon, boolOf, cmpGt, this]
  · rintro r m6 ⟨rfl, a6, a7, a8, rfl⟩
    rw [thenNx, w_consS]
    simp [-thenNx]
    refine parts_w X.f299 l5 h8 (fun i j q a b e1 e2 => chain_tri ok v e1 e2) ?_
    simp [boolOf, -thenNx]
    rw [thenNx, w_consS]
    simp [-thenNx]
    have n1 := ok.n1
    refine taken_w X.f280 (k := F.n) hr5 n1 (by omega) fun f m7 hf g7 hr7 => ?_
    refine taken_w X.f280 (k := F.n) hr7 n1 (by omega) fun r m8 hrr g8 hr8 => ?_
    simp [setMany, -thenNx]
    rw [thenNx, w_consS]
    have l8 := (l5.grow g g7).grow g g8
    have bl : ∀ m, bltV .len [.tup (F.rs.map ropeD)] m = .ok (.int F.rs.length) m := fun m => by simp [bltV]
    rw [w_ifS, w_tst, w_and]
    by_cases hne : f = r
    · subst hne
      simp [cmpNe, boolOf]
      exact h _ _ _ _ _ _ _ _ _ _ _ _ _ _ _ _ _ hr8
    · have hne2 : ¬ (f : Int) = (r : Int) := fun z => hne (Int.ofNat_inj.mp z)
      by_cases h40 : F.rs.length < 40
      · have h40i : (F.rs.length : Int) < 40 := by omega
        simp [cmpNe, hne2, boolOf, dI1, bl, cmpLtI, h40i, -thenNx, -w_consS]
        have key := if300_w X (n := n) hr8 ok v hf hrr hne h40 l8 (Q := Q) (a2 := a2) (a8 := a8) (a9 := a9) (a10 := a10) (a11 := a11) (a12 := a12) (a13 := a13) (a14 := a14) (a15 := a15) (a16 := a16) (a17 := a17) (a18 := a18) (fun m' b9 b10 b11 b12 b13 b14 b15 hr' => h _ _ _ _ _ _ _ _ _ _ _ _ _ _ _ _ _ hr')
        simp only [if300, body300, fn300, List.getLast?_cons_cons, List.getLast?_singleton] at key
        refine key.mono fun fl r m' hq => ?_
        cases fl <;> exact hq
      · have h40i : ¬ (F.rs.length : Int) < 40 := by omega
        simp [cmpNe, hne2, boolOf, dI1, bl, cmpLtI, h40i]
        exact h _ _ _ _ _ _ _ _ _ _ _ _ _ _ _ _ _ hr8
theorem law300 (X : Q22 G) (h300 : G.fns 300 = some fn300) {n : Nat} {ns : List Int} : ∃ m, callN G (n + 8) 300 [.scr ns] [] = .ok (.bl true) m := by
  have key : (callN G (n + 8) 300 [.scr ns] []).wp fun d m => d = .bl true := by
    refine wp_call h300 rfl ?_
    have hlim : lim62 (2 : Int) = true := by simp [lim62]
    simp [fn300, startS, four_big]
    refine w_forS ?_
    simp [mkIt, hlim, endIt]
    refine ws_for (fun i r m1 => RowAt ns m1 ∧ ∃ a2 a3 a4 a5 a6 a7 a8 a9 a10 a11 a12 a13 a14 a15 a16 a17 a18, r = [some (.scr ns), some (.ref 0), a2, a3, a4, a5, a6, a7, a8, a9, a10, a11, a12, a13, a14, a15, a16, a17, a18]) ((List.range 2).map fun (j : Nat) => D.int (0 + j)) (fun _ _ _ _ => nth_rng)
      ⟨⟨0, 0, 0, rfl⟩, _, _, _, _, _, _, _, _, _, _, _, _, _, _, _, _, _, rfl⟩ (fu_of (by simp)) ?_ ?_
    · rintro i r m1 x hx ⟨hr, a2, a3, a4, a5, a6, a7, a8, a9, a10, a11, a12, a13, a14, a15, a16, a17, a18, rfl⟩
      refine ⟨_, by simp; rfl, ?_⟩
      refine turn300 X hr fun m' b3 b4 b5 b6 b7 b8 b9 b10 b11 b12 b13 b14 b15 b16 b17 b18 hr' => ?_
      exact ⟨hr', _, _, _, _, _, _, _, _, _, _, _, _, _, _, _, _, _, rfl⟩
    · rintro r m1 ⟨hr, a2, a3, a4, a5, a6, a7, a8, a9, a10, a11, a12, a13, a14, a15, a16, a17, a18, rfl⟩
      simp
  obtain ⟨a, m, e, rfl⟩ := key.ok
  exact ⟨m, e⟩
end
end HR

set_option linter.all false
set_option maxRecDepth 100000
set_option maxHeartbeats 4000000
/-! K22: the program as the evaluator has it. -/
namespace K22
open PySem L2 HR
def tp (i : Nat) : Stmt := PySem.Challenge.pw_haulropes_k22_whole_chains_and_circles.main.body.getD i (.Pass ⟨0, 0, 0, 0⟩)
def tb : Tab := ⟨[(9, ("is_integer" : Str)), (10, ("is_rope" : Str)), (11, ("check_fleet" : Str)), (12, ("check_rope" : Str)), (18, ("consistent_table" : Str)), (19, ("chain_length" : Str)), (20, ("find_circle" : Str)), (21, ("closed_part" : Str)), (22, ("is_circle" : Str)), (50, ("implies" : Str)), (51, ("implied" : Str)), (280, ("_law_taken" : Str)), (224, ("_law_fleet" : Str)), (296, ("_law_lengths" : Str)), (297, ("_law_is_contradictory" : Str)), (298, ("_law_least" : Str)), (299, ("_law_are_parts" : Str)), (300, ("law" : Str))], [(14, ("ChainTable" : Str))], [(5, ("lengths" : Str)), (6, ("ropes" : Str)), (7, ("count" : Str))], [(1, ("offer" : Str)), (2, ("extend" : Str)), (3, ("length" : Str)), (4, ("is_contradictory" : Str))], [(2, ("InvalidRope" : Str)), (4, ("Contradictory" : Str)), (3, ("InvalidBarge" : Str))]⟩
def gcs : List (Str × Int) := [("MAX_BARGES", 8), ("MAX_LENGTH", 99), ("MAX_ROPES", 40)]
def d9 : Df := ⟨"is_integer", "is_integer", tp 10, ["value", "low", "high"], ["value", "low", "high"], fn9⟩
def d10 : Df := ⟨"is_rope", "is_rope", tp 11, ["count", "rope", "front", "rear", "length"], ["count", "rope"], fn10⟩
def d11 : Df := ⟨"check_fleet", "check_fleet", tp 12, ["fleet", "count", "ropes", "index", "rope"], ["fleet"], fn11⟩
def d12 : Df := ⟨"check_rope", "check_rope", tp 13, ["fleet", "rope"], ["fleet", "rope"], fn12⟩
def d18 : Df := ⟨"consistent_table", "consistent_table", tp 15, ["fleet", "table"], ["fleet"], fn18⟩
def d19 : Df := ⟨"chain_length", "chain_length", tp 16, ["fleet", "front", "rear", "barge"], ["fleet", "front", "rear"], fn19⟩
def d20 : Df := ⟨"find_circle", "find_circle", tp 17, ["fleet", "best", "turn", "barge", "count", "ropes", "later", "circle", "index", "total", "front", "rear", "length"], ["fleet"], fn20⟩
def d21 : Df := ⟨"closed_part", "closed_part", tp 18, ["ropes", "chain", "start", "end", "part", "index"], ["ropes", "chain"], fn21⟩
def d22 : Df := ⟨"is_circle", "is_circle", tp 19, ["fleet", "circle", "ropes", "index", "following"], ["fleet", "circle"], fn22⟩
def d50 : Df := ⟨"implies", "implies", tp 21, ["table", "rope", "found", "front", "rear", "length"], ["table", "rope"], fn50⟩
def d51 : Df := ⟨"implied", "implied", tp 22, ["fleet", "rope"], ["fleet", "rope"], fn51⟩
def d280 : Df := ⟨"_law_taken", "_law_taken", tp 24, ["_law_row", "_law_many", "_law_cell", "_law_found"], ["_law_row", "_law_many"], fn280⟩
def d224 : Df := ⟨"_law_fleet", "_law_fleet", tp 25, ["_law_row", "_law_most", "_law_count", "_law_factor", "_law_places", "_law_ropes", "_law_k", "_law_barge", "_law_front", "_law_rear", "_law_some", "_law_more"], ["_law_row", "_law_most"], fn224⟩
def d296 : Df := ⟨"_law_lengths", "_law_lengths", tp 26, ["_law_fleet_here", "_law_front", "_law_rear"], ["_law_fleet_here"], fn296⟩
def d297 : Df := ⟨"_law_is_contradictory", "_law_is_contradictory", tp 27, ["_law_fleet_here"], ["_law_fleet_here"], fn297⟩
def d298 : Df := ⟨"_law_least", "_law_least", tp 28, ["_law_lengths_here", "_law_front", "_law_rear", "_law_rope", "_law_by", "_law_old", "_law_some", "_law_ways", "_law_one"], ["_law_lengths_here", "_law_front", "_law_rear", "_law_rope"], fn298⟩
def d299 : Df := ⟨"_law_are_parts", "_law_are_parts", tp 29, ["_law_lengths_here", "_law_a", "_law_b", "_law_c", "_law_whole", "_law_one", "_law_other"], ["_law_lengths_here"], fn299⟩
def d300 : Df := ⟨"law", "law", tp 30, ["_law_script", "_law_row", "_law_turn", "_law_fleet_here", "_law_count", "_law_lengths_here", "_law_front", "_law_rear", "_law_length", "_law_rope", "_law_bad", "_law_circle", "_law_more", "_law_back", "_law_later", "_law_due", "_law_k", "_law_a", "_law_b"], ["_law_script"], fn300⟩
def d13 : Df := ⟨"__init__", "ChainTable.__init__", inClass (tp 14) 0, ["self", "fleet", "middle", "front", "rear", "length", "barge"], ["self", "fleet"], fn13⟩
def d14 : Df := ⟨"offer", "ChainTable.offer", inClass (tp 14) 1, ["self", "pair", "length"], ["self", "pair", "length"], fn14⟩
def d15 : Df := ⟨"extend", "ChainTable.extend", inClass (tp 14) 2, ["self", "middle", "before", "behind", "front", "length", "rear", "more", "end", "start"], ["self", "middle"], fn15⟩
def d16 : Df := ⟨"length", "ChainTable.length", inClass (tp 14) 3, ["self", "front", "rear"], ["self", "front", "rear"], fn16⟩
def d17 : Df := ⟨"is_contradictory", "ChainTable.is_contradictory", inClass (tp 14) 4, ["self", "barge"], ["self"], fn17⟩
def ds : List (Nat × Df) := [(9, d9), (10, d10), (11, d11), (12, d12), (18, d18), (19, d19), (20, d20), (21, d21), (22, d22), (50, d50), (51, d51), (280, d280), (224, d224), (296, d296), (297, d297), (298, d298), (299, d299), (300, d300), (13, d13), (14, d14), (15, d15), (16, d16), (17, d17)]
def meth : Nat → Nat → Option Nat
  | 14, 1 => some 14
  | 14, 2 => some 15
  | 14, 3 => some 16
  | 14, 4 => some 17
  | _, _ => none
def init : Nat → Option Nat
  | 14 => some 13
  | _ => none
theorem ok9 : dfOk tb gcs d9 = true := by decide +kernel
theorem ok10 : dfOk tb gcs d10 = true := by decide +kernel
theorem ok11 : dfOk tb gcs d11 = true := by decide +kernel
theorem ok12 : dfOk tb gcs d12 = true := by decide +kernel
theorem ok18 : dfOk tb gcs d18 = true := by decide +kernel
theorem ok19 : dfOk tb gcs d19 = true := by decide +kernel
theorem ok20 : dfOk tb gcs d20 = true := by decide +kernel
theorem ok21 : dfOk tb gcs d21 = true := by decide +kernel
theorem ok22 : dfOk tb gcs d22 = true := by decide +kernel
theorem ok50 : dfOk tb gcs d50 = true := by decide +kernel
theorem ok51 : dfOk tb gcs d51 = true := by decide +kernel
theorem ok280 : dfOk tb gcs d280 = true := by decide +kernel
theorem ok224 : dfOk tb gcs d224 = true := by decide +kernel
theorem ok296 : dfOk tb gcs d296 = true := by decide +kernel
theorem ok297 : dfOk tb gcs d297 = true := by decide +kernel
theorem ok298 : dfOk tb gcs d298 = true := by decide +kernel
theorem ok299 : dfOk tb gcs d299 = true := by decide +kernel
theorem ok300 : dfOk tb gcs d300 = true := by decide +kernel
theorem ok13 : dfOk tb gcs d13 = true := by decide +kernel
theorem ok14 : dfOk tb gcs d14 = true := by decide +kernel
theorem ok15 : dfOk tb gcs d15 = true := by decide +kernel
theorem ok16 : dfOk tb gcs d16 = true := by decide +kernel
theorem ok17 : dfOk tb gcs d17 = true := by decide +kernel
theorem oks : ∀ f d, ds.lookup f = some d → dfOk tb gcs d = true := by
  intro f d hd
  have hm := lkD_mem hd
  simp only [ds, List.mem_cons, List.not_mem_nil, or_false, Prod.mk.injEq] at hm
  rcases hm with ⟨_, rfl⟩ | ⟨_, rfl⟩ | ⟨_, rfl⟩ | ⟨_, rfl⟩ | ⟨_, rfl⟩ | ⟨_, rfl⟩ | ⟨_, rfl⟩ | ⟨_, rfl⟩ | ⟨_, rfl⟩ | ⟨_, rfl⟩ | ⟨_, rfl⟩ | ⟨_, rfl⟩ | ⟨_, rfl⟩ | ⟨_, rfl⟩ | ⟨_, rfl⟩ | ⟨_, rfl⟩ | ⟨_, rfl⟩ | ⟨_, rfl⟩ | ⟨_, rfl⟩ | ⟨_, rfl⟩ | ⟨_, rfl⟩ | ⟨_, rfl⟩ | ⟨_, rfl⟩
  · exact ok9
  · exact ok10
  · exact ok11
  · exact ok12
  · exact ok18
  · exact ok19
  · exact ok20
  · exact ok21
  · exact ok22
  · exact ok50
  · exact ok51
  · exact ok280
  · exact ok224
  · exact ok296
  · exact ok297
  · exact ok298
  · exact ok299
  · exact ok300
  · exact ok13
  · exact ok14
  · exact ok15
  · exact ok16
  · exact ok17
end K22

set_option linter.all false
set_option maxRecDepth 100000
set_option maxHeartbeats 4000000
/-! K22: the plain law. -/
namespace K22
open PySem L2 HR
theorem pk : Pk (prog ds meth init) := ⟨rfl, rfl, rfl, rfl, rfl, rfl, rfl, rfl, rfl, rfl, rfl, rfl, rfl, rfl⟩
theorem q22 : Q22 (prog ds meth init) := ⟨pk, rfl, rfl, rfl, rfl, rfl, rfl, rfl, rfl, rfl, rfl, rfl, rfl, rfl⟩
theorem pure_ : ∀ ns : List Int, ns.length ≤ 63 → ∃ m, callN (prog ds meth init) 20 300 [.scr ns] [] = .ok (.bl true) m := fun ns _ => law300 q22 rfl
end K22

namespace K22
open PySem L2 HR
section
set_option maxHeartbeats 16000000
def clOf (C0 E0 E1 E2 : Addr) : Nat → Addr
  | 14 => C0
  | 2 => E0
  | 4 => E1
  | 3 => E2
  | _ => 0
theorem head {l : PySem.W.OpenLaw} {w : World} {K : PySem.W.Frag} {h : Heap} {mg : Str → Option Value} {fa C0 E0 E1 E2 f0 f1 f2 f3 f4 f5 f6 f7 f8 f9 f10 f11 f12 f13 f14 f15 f16 f17 f18 f19 f20 f21 f22 : Addr} (X : K.In h) (G : h.Ns mainGlobals mg) (hfa : mg "law" = some (.ref fa))
    {od0 an0 : Option Addr} {sl0 : Array (Option Value)} {oc0 kV0 dc0 pm0 cd0 ct0 : Value} {od1 an1 : Option Addr} {sl1 : Array (Option Value)} {oc1 kV1 dc1 pm1 cd1 ct1 : Value} {od2 an2 : Option Addr} {sl2 : Array (Option Value)} {oc2 kV2 dc2 pm2 cd2 ct2 : Value} {od3 an3 : Option Addr} {sl3 : Array (Option Value)} {oc3 kV3 dc3 pm3 cd3 ct3 : Value} {od4 an4 : Option Addr} {sl4 : Array (Option Value)} {oc4 kV4 dc4 pm4 cd4 ct4 : Value} {od5 an5 : Option Addr} {sl5 : Array (Option Value)} {oc5 kV5 dc5 pm5 cd5 ct5 : Value} {od6 an6 : Option Addr} {sl6 : Array (Option Value)} {oc6 kV6 dc6 pm6 cd6 ct6 : Value} {od7 an7 : Option Addr} {sl7 : Array (Option Value)} {oc7 kV7 dc7 pm7 cd7 ct7 : Value} {od8 an8 : Option Addr} {sl8 : Array (Option Value)} {oc8 kV8 dc8 pm8 cd8 ct8 : Value} {od9 an9 : Option Addr} {sl9 : Array (Option Value)} {oc9 kV9 dc9 pm9 cd9 ct9 : Value} {od10 an10 : Option Addr} {sl10 : Array (Option Value)} {oc10 kV10 dc10 pm10 cd10 ct10 : Value} {od11 an11 : Option Addr} {sl11 : Array (Option Value)} {oc11 kV11 dc11 pm11 cd11 ct11 : Value} {od12 an12 : Option Addr} {sl12 : Array (Option Value)} {oc12 kV12 dc12 pm12 cd12 ct12 : Value} {od13 an13 : Option Addr} {sl13 : Array (Option Value)} {oc13 kV13 dc13 pm13 cd13 ct13 : Value} {od14 an14 : Option Addr} {sl14 : Array (Option Value)} {oc14 kV14 dc14 pm14 cd14 ct14 : Value} {od15 an15 : Option Addr} {sl15 : Array (Option Value)} {oc15 kV15 dc15 pm15 cd15 ct15 : Value} {od16 an16 : Option Addr} {sl16 : Array (Option Value)} {oc16 kV16 dc16 pm16 cd16 ct16 : Value} {od17 an17 : Option Addr} {sl17 : Array (Option Value)} {oc17 kV17 dc17 pm17 cd17 ct17 : Value} {od18 an18 : Option Addr} {sl18 : Array (Option Value)} {oc18 kV18 dc18 pm18 cd18 ct18 : Value} {od19 an19 : Option Addr} {sl19 : Array (Option Value)} {oc19 kV19 dc19 pm19 cd19 ct19 : Value} {od20 an20 : Option Addr} {sl20 : Array (Option Value)} {oc20 kV20 dc20 pm20 cd20 ct20 : Value} {od21 an21 : Option Addr} {sl21 : Array (Option Value)} {oc21 kV21 dc21 pm21 cd21 ct21 : Value} {od22 an22 : Option Addr} {sl22 : Array (Option Value)} {oc22 kV22 dc22 pm22 cd22 ct22 : Value} {t_MAX_BARGES : Tok} {t_MAX_LENGTH : Tok} {t_MAX_ROPES : Tok}
    (pure_ : ∀ ns : List Int, ns.length ≤ 63 → ∃ m, callN (prog ds meth init) 20 300 [.scr ns] [] = .ok (.bl true) m)
    (aC0 : PySem.W.nsIn K mainGlobals "ChainTable" = some (some (.ref C0)))
    (pg0 : PySem.W.plainGet K C0 Str.empty = true)
    (hd0 : PySem.W.hasDictIn K C0 = true)
    (po0 : PySem.W.plainOver K C0 = true)
    (sa0 : PySem.W.findIn K (.ref C0) "__setattr__" = some (some (.builtin "object.__setattr__")))
    (mk0 : PySem.W.makesIn K C0 = true)
    (kc0 : PySem.W.keepIn K (.ref C0) = true)
    (n0_0 : PySem.W.findIn K (.ref C0) "lengths" = some none)
    (n0_1 : PySem.W.findIn K (.ref C0) "ropes" = some none)
    (n0_2 : PySem.W.findIn K (.ref C0) "count" = some none)
    (aE0 : PySem.W.nsIn K mainGlobals "InvalidRope" = some (some (.ref E0)))
    (xE0 : PySem.W.excIn K E0 [.type "ValueError", .type "Exception", .type "BaseException", .type "object"] "ValueError.__new__" = true)
    (kE0 : PySem.W.keepIn K (.ref E0) = true)
    (bE0 : PySem.W.subIn K (.ref E0) (.type "BaseException") = some true)
    (tE0 : PySem.W.typeIn K (.ref E0) = some (.type "type"))
    (iE0 : PySem.W.isClsIn K E0 = true)
    (sE0 : PySem.W.subIn K (.ref E0) (.ref E0) = some true)
    (aE1 : PySem.W.nsIn K mainGlobals "Contradictory" = some (some (.ref E1)))
    (xE1 : PySem.W.excIn K E1 [.type "ValueError", .type "Exception", .type "BaseException", .type "object"] "ValueError.__new__" = true)
    (kE1 : PySem.W.keepIn K (.ref E1) = true)
    (bE1 : PySem.W.subIn K (.ref E1) (.type "BaseException") = some true)
    (tE1 : PySem.W.typeIn K (.ref E1) = some (.type "type"))
    (iE1 : PySem.W.isClsIn K E1 = true)
    (sE1 : PySem.W.subIn K (.ref E1) (.ref E1) = some true)
    (aE2 : PySem.W.nsIn K mainGlobals "InvalidBarge" = some (some (.ref E2)))
    (xE2 : PySem.W.excIn K E2 [.type "ValueError", .type "Exception", .type "BaseException", .type "object"] "ValueError.__new__" = true)
    (kE2 : PySem.W.keepIn K (.ref E2) = true)
    (bE2 : PySem.W.subIn K (.ref E2) (.type "BaseException") = some true)
    (tE2 : PySem.W.typeIn K (.ref E2) = some (.type "type"))
    (iE2 : PySem.W.isClsIn K E2 = true)
    (sE2 : PySem.W.subIn K (.ref E2) (.ref E2) = some true)
    (a0 : PySem.W.nsIn K mainGlobals "is_integer" = some (some (.ref f0)))
    (l0 : K.lookup f0 = some ⟨oc0, od0, .func (PySem.W.fnOf "is_integer" "is_integer" (defArgs (tp 10)) (defBody (tp 10)) (defScope (tp 10)) .none kV0 dc0 pm0 an0 cd0 ct0), sl0⟩)
    (c0 : PySem.W.codeIn K cd0 "is_integer" = true)
    (k0 : PySem.W.keepIn K (.ref f0) = true)
    (a1 : PySem.W.nsIn K mainGlobals "is_rope" = some (some (.ref f1)))
    (l1 : K.lookup f1 = some ⟨oc1, od1, .func (PySem.W.fnOf "is_rope" "is_rope" (defArgs (tp 11)) (defBody (tp 11)) (defScope (tp 11)) .none kV1 dc1 pm1 an1 cd1 ct1), sl1⟩)
    (c1 : PySem.W.codeIn K cd1 "is_rope" = true)
    (k1 : PySem.W.keepIn K (.ref f1) = true)
    (a2 : PySem.W.nsIn K mainGlobals "check_fleet" = some (some (.ref f2)))
    (l2 : K.lookup f2 = some ⟨oc2, od2, .func (PySem.W.fnOf "check_fleet" "check_fleet" (defArgs (tp 12)) (defBody (tp 12)) (defScope (tp 12)) .none kV2 dc2 pm2 an2 cd2 ct2), sl2⟩)
    (c2 : PySem.W.codeIn K cd2 "check_fleet" = true)
    (k2 : PySem.W.keepIn K (.ref f2) = true)
    (a3 : PySem.W.nsIn K mainGlobals "check_rope" = some (some (.ref f3)))
    (l3 : K.lookup f3 = some ⟨oc3, od3, .func (PySem.W.fnOf "check_rope" "check_rope" (defArgs (tp 13)) (defBody (tp 13)) (defScope (tp 13)) .none kV3 dc3 pm3 an3 cd3 ct3), sl3⟩)
    (c3 : PySem.W.codeIn K cd3 "check_rope" = true)
    (k3 : PySem.W.keepIn K (.ref f3) = true)
    (a4 : PySem.W.nsIn K mainGlobals "consistent_table" = some (some (.ref f4)))
    (l4 : K.lookup f4 = some ⟨oc4, od4, .func (PySem.W.fnOf "consistent_table" "consistent_table" (defArgs (tp 15)) (defBody (tp 15)) (defScope (tp 15)) .none kV4 dc4 pm4 an4 cd4 ct4), sl4⟩)
    (c4 : PySem.W.codeIn K cd4 "consistent_table" = true)
    (k4 : PySem.W.keepIn K (.ref f4) = true)
    (a5 : PySem.W.nsIn K mainGlobals "chain_length" = some (some (.ref f5)))
    (l5 : K.lookup f5 = some ⟨oc5, od5, .func (PySem.W.fnOf "chain_length" "chain_length" (defArgs (tp 16)) (defBody (tp 16)) (defScope (tp 16)) .none kV5 dc5 pm5 an5 cd5 ct5), sl5⟩)
    (c5 : PySem.W.codeIn K cd5 "chain_length" = true)
    (k5 : PySem.W.keepIn K (.ref f5) = true)
    (a6 : PySem.W.nsIn K mainGlobals "find_circle" = some (some (.ref f6)))
    (l6 : K.lookup f6 = some ⟨oc6, od6, .func (PySem.W.fnOf "find_circle" "find_circle" (defArgs (tp 17)) (defBody (tp 17)) (defScope (tp 17)) .none kV6 dc6 pm6 an6 cd6 ct6), sl6⟩)
    (c6 : PySem.W.codeIn K cd6 "find_circle" = true)
    (k6 : PySem.W.keepIn K (.ref f6) = true)
    (a7 : PySem.W.nsIn K mainGlobals "closed_part" = some (some (.ref f7)))
    (l7 : K.lookup f7 = some ⟨oc7, od7, .func (PySem.W.fnOf "closed_part" "closed_part" (defArgs (tp 18)) (defBody (tp 18)) (defScope (tp 18)) .none kV7 dc7 pm7 an7 cd7 ct7), sl7⟩)
    (c7 : PySem.W.codeIn K cd7 "closed_part" = true)
    (k7 : PySem.W.keepIn K (.ref f7) = true)
    (a8 : PySem.W.nsIn K mainGlobals "is_circle" = some (some (.ref f8)))
    (l8 : K.lookup f8 = some ⟨oc8, od8, .func (PySem.W.fnOf "is_circle" "is_circle" (defArgs (tp 19)) (defBody (tp 19)) (defScope (tp 19)) .none kV8 dc8 pm8 an8 cd8 ct8), sl8⟩)
    (c8 : PySem.W.codeIn K cd8 "is_circle" = true)
    (k8 : PySem.W.keepIn K (.ref f8) = true)
    (a9 : PySem.W.nsIn K mainGlobals "implies" = some (some (.ref f9)))
    (l9 : K.lookup f9 = some ⟨oc9, od9, .func (PySem.W.fnOf "implies" "implies" (defArgs (tp 21)) (defBody (tp 21)) (defScope (tp 21)) .none kV9 dc9 pm9 an9 cd9 ct9), sl9⟩)
    (c9 : PySem.W.codeIn K cd9 "implies" = true)
    (k9 : PySem.W.keepIn K (.ref f9) = true)
    (a10 : PySem.W.nsIn K mainGlobals "implied" = some (some (.ref f10)))
    (l10 : K.lookup f10 = some ⟨oc10, od10, .func (PySem.W.fnOf "implied" "implied" (defArgs (tp 22)) (defBody (tp 22)) (defScope (tp 22)) .none kV10 dc10 pm10 an10 cd10 ct10), sl10⟩)
    (c10 : PySem.W.codeIn K cd10 "implied" = true)
    (k10 : PySem.W.keepIn K (.ref f10) = true)
    (a11 : PySem.W.nsIn K mainGlobals "_law_taken" = some (some (.ref f11)))
    (l11 : K.lookup f11 = some ⟨oc11, od11, .func (PySem.W.fnOf "_law_taken" "_law_taken" (defArgs (tp 24)) (defBody (tp 24)) (defScope (tp 24)) .none kV11 dc11 pm11 an11 cd11 ct11), sl11⟩)
    (c11 : PySem.W.codeIn K cd11 "_law_taken" = true)
    (k11 : PySem.W.keepIn K (.ref f11) = true)
    (a12 : PySem.W.nsIn K mainGlobals "_law_fleet" = some (some (.ref f12)))
    (l12 : K.lookup f12 = some ⟨oc12, od12, .func (PySem.W.fnOf "_law_fleet" "_law_fleet" (defArgs (tp 25)) (defBody (tp 25)) (defScope (tp 25)) .none kV12 dc12 pm12 an12 cd12 ct12), sl12⟩)
    (c12 : PySem.W.codeIn K cd12 "_law_fleet" = true)
    (k12 : PySem.W.keepIn K (.ref f12) = true)
    (a13 : PySem.W.nsIn K mainGlobals "_law_lengths" = some (some (.ref f13)))
    (l13 : K.lookup f13 = some ⟨oc13, od13, .func (PySem.W.fnOf "_law_lengths" "_law_lengths" (defArgs (tp 26)) (defBody (tp 26)) (defScope (tp 26)) .none kV13 dc13 pm13 an13 cd13 ct13), sl13⟩)
    (c13 : PySem.W.codeIn K cd13 "_law_lengths" = true)
    (k13 : PySem.W.keepIn K (.ref f13) = true)
    (a14 : PySem.W.nsIn K mainGlobals "_law_is_contradictory" = some (some (.ref f14)))
    (l14 : K.lookup f14 = some ⟨oc14, od14, .func (PySem.W.fnOf "_law_is_contradictory" "_law_is_contradictory" (defArgs (tp 27)) (defBody (tp 27)) (defScope (tp 27)) .none kV14 dc14 pm14 an14 cd14 ct14), sl14⟩)
    (c14 : PySem.W.codeIn K cd14 "_law_is_contradictory" = true)
    (k14 : PySem.W.keepIn K (.ref f14) = true)
    (a15 : PySem.W.nsIn K mainGlobals "_law_least" = some (some (.ref f15)))
    (l15 : K.lookup f15 = some ⟨oc15, od15, .func (PySem.W.fnOf "_law_least" "_law_least" (defArgs (tp 28)) (defBody (tp 28)) (defScope (tp 28)) .none kV15 dc15 pm15 an15 cd15 ct15), sl15⟩)
    (c15 : PySem.W.codeIn K cd15 "_law_least" = true)
    (k15 : PySem.W.keepIn K (.ref f15) = true)
    (a16 : PySem.W.nsIn K mainGlobals "_law_are_parts" = some (some (.ref f16)))
    (l16 : K.lookup f16 = some ⟨oc16, od16, .func (PySem.W.fnOf "_law_are_parts" "_law_are_parts" (defArgs (tp 29)) (defBody (tp 29)) (defScope (tp 29)) .none kV16 dc16 pm16 an16 cd16 ct16), sl16⟩)
    (c16 : PySem.W.codeIn K cd16 "_law_are_parts" = true)
    (k16 : PySem.W.keepIn K (.ref f16) = true)
    (a17 : PySem.W.nsIn K mainGlobals "law" = some (some (.ref f17)))
    (l17 : K.lookup f17 = some ⟨oc17, od17, .func (PySem.W.fnOf "law" "law" (defArgs (tp 30)) (defBody (tp 30)) (defScope (tp 30)) .none kV17 dc17 pm17 an17 cd17 ct17), sl17⟩)
    (c17 : PySem.W.codeIn K cd17 "law" = true)
    (k17 : PySem.W.keepIn K (.ref f17) = true)
    (a18 : PySem.W.findIn K (.ref C0) "__init__" = some (some (.ref f18)))
    (i18 : PySem.W.isFn K (.ref f18) = true)
    (l18 : K.lookup f18 = some ⟨oc18, od18, .func (PySem.W.fnOf "__init__" "ChainTable.__init__" (defArgs (inClass (tp 14) 0)) (defBody (inClass (tp 14) 0)) (defScope (inClass (tp 14) 0)) .none kV18 dc18 pm18 an18 cd18 ct18), sl18⟩)
    (c18 : PySem.W.codeIn K cd18 "ChainTable.__init__" = true)
    (k18 : PySem.W.keepIn K (.ref f18) = true)
    (a19 : PySem.W.findIn K (.ref C0) "offer" = some (some (.ref f19)))
    (i19 : PySem.W.isFn K (.ref f19) = true)
    (l19 : K.lookup f19 = some ⟨oc19, od19, .func (PySem.W.fnOf "offer" "ChainTable.offer" (defArgs (inClass (tp 14) 1)) (defBody (inClass (tp 14) 1)) (defScope (inClass (tp 14) 1)) .none kV19 dc19 pm19 an19 cd19 ct19), sl19⟩)
    (c19 : PySem.W.codeIn K cd19 "ChainTable.offer" = true)
    (k19 : PySem.W.keepIn K (.ref f19) = true)
    (a20 : PySem.W.findIn K (.ref C0) "extend" = some (some (.ref f20)))
    (i20 : PySem.W.isFn K (.ref f20) = true)
    (l20 : K.lookup f20 = some ⟨oc20, od20, .func (PySem.W.fnOf "extend" "ChainTable.extend" (defArgs (inClass (tp 14) 2)) (defBody (inClass (tp 14) 2)) (defScope (inClass (tp 14) 2)) .none kV20 dc20 pm20 an20 cd20 ct20), sl20⟩)
    (c20 : PySem.W.codeIn K cd20 "ChainTable.extend" = true)
    (k20 : PySem.W.keepIn K (.ref f20) = true)
    (a21 : PySem.W.findIn K (.ref C0) "length" = some (some (.ref f21)))
    (i21 : PySem.W.isFn K (.ref f21) = true)
    (l21 : K.lookup f21 = some ⟨oc21, od21, .func (PySem.W.fnOf "length" "ChainTable.length" (defArgs (inClass (tp 14) 3)) (defBody (inClass (tp 14) 3)) (defScope (inClass (tp 14) 3)) .none kV21 dc21 pm21 an21 cd21 ct21), sl21⟩)
    (c21 : PySem.W.codeIn K cd21 "ChainTable.length" = true)
    (k21 : PySem.W.keepIn K (.ref f21) = true)
    (a22 : PySem.W.findIn K (.ref C0) "is_contradictory" = some (some (.ref f22)))
    (i22 : PySem.W.isFn K (.ref f22) = true)
    (l22 : K.lookup f22 = some ⟨oc22, od22, .func (PySem.W.fnOf "is_contradictory" "ChainTable.is_contradictory" (defArgs (inClass (tp 14) 4)) (defBody (inClass (tp 14) 4)) (defScope (inClass (tp 14) 4)) .none kV22 dc22 pm22 an22 cd22 ct22), sl22⟩)
    (c22 : PySem.W.codeIn K cd22 "ChainTable.is_contradictory" = true)
    (k22 : PySem.W.keepIn K (.ref f22) = true)
    (z_len : PySem.W.nsIn K mainGlobals "len" = some none)
    (z_sum : PySem.W.nsIn K mainGlobals "sum" = some none)
    (z_min : PySem.W.nsIn K mainGlobals "min" = some none)
    (z_max : PySem.W.nsIn K mainGlobals "max" = some none)
    (z_abs : PySem.W.nsIn K mainGlobals "abs" = some none)
    (z_int : PySem.W.nsIn K mainGlobals "int" = some none)
    (z_str : PySem.W.nsIn K mainGlobals "str" = some none)
    (z_tuple : PySem.W.nsIn K mainGlobals "tuple" = some none)
    (z_list : PySem.W.nsIn K mainGlobals "list" = some none)
    (z_dict : PySem.W.nsIn K mainGlobals "dict" = some none)
    (z_sorted : PySem.W.nsIn K mainGlobals "sorted" = some none)
    (z_all : PySem.W.nsIn K mainGlobals "all" = some none)
    (z_any : PySem.W.nsIn K mainGlobals "any" = some none)
    (z_range : PySem.W.nsIn K mainGlobals "range" = some none)
    (z_enumerate : PySem.W.nsIn K mainGlobals "enumerate" = some none)
    (z_zip : PySem.W.nsIn K mainGlobals "zip" = some none)
    (z_isinstance : PySem.W.nsIn K mainGlobals "isinstance" = some none)
    (z_bool : PySem.W.nsIn K mainGlobals "bool" = some none)
    (g_MAX_BARGES : PySem.W.nsIn K mainGlobals "MAX_BARGES" = some (some (.int 8 t_MAX_BARGES)))
    (g_MAX_LENGTH : PySem.W.nsIn K mainGlobals "MAX_LENGTH" = some (some (.int 99 t_MAX_LENGTH)))
    (g_MAX_ROPES : PySem.W.nsIn K mainGlobals "MAX_ROPES" = some (some (.int 40 t_MAX_ROPES)))
    : ∃ fd : FuncData, (∀ (s : Shared) (v : Value), BindsTo s fd ⟨[v], []⟩ [("_law_script", v)]) ∧ ∀ base : Heap, K.In base → base.Ns mainGlobals mg → FnOk l.prog w K mg base (L2.CX l.prog w) (2 * 20) fa fd ["_law_script"] (spL K) := by
  have e := hfa.symm.trans (PySem.W.mg_of X G a17)
  cases e
  have F0 := fun_mk (st := tp 10) l0 c0 k0
  have b0 := F0.binds (ps := ["value", "low", "high"]) fun _ _ _ _ _ _ us hl => match us, hl with | [_, _, _], _ => rfl
  have F1 := fun_mk (st := tp 11) l1 c1 k1
  have b1 := F1.binds (ps := ["count", "rope"]) fun _ _ _ _ _ _ us hl => match us, hl with | [_, _], _ => rfl
  have F2 := fun_mk (st := tp 12) l2 c2 k2
  have b2 := F2.binds (ps := ["fleet"]) fun _ _ _ _ _ _ us hl => match us, hl with | [_], _ => rfl
  have F3 := fun_mk (st := tp 13) l3 c3 k3
  have b3 := F3.binds (ps := ["fleet", "rope"]) fun _ _ _ _ _ _ us hl => match us, hl with | [_, _], _ => rfl
  have F4 := fun_mk (st := tp 15) l4 c4 k4
  have b4 := F4.binds (ps := ["fleet"]) fun _ _ _ _ _ _ us hl => match us, hl with | [_], _ => rfl
  have F5 := fun_mk (st := tp 16) l5 c5 k5
  have b5 := F5.binds (ps := ["fleet", "front", "rear"]) fun _ _ _ _ _ _ us hl => match us, hl with | [_, _, _], _ => rfl
  have F6 := fun_mk (st := tp 17) l6 c6 k6
  have b6 := F6.binds (ps := ["fleet"]) fun _ _ _ _ _ _ us hl => match us, hl with | [_], _ => rfl
  have F7 := fun_mk (st := tp 18) l7 c7 k7
  have b7 := F7.binds (ps := ["ropes", "chain"]) fun _ _ _ _ _ _ us hl => match us, hl with | [_, _], _ => rfl
  have F8 := fun_mk (st := tp 19) l8 c8 k8
  have b8 := F8.binds (ps := ["fleet", "circle"]) fun _ _ _ _ _ _ us hl => match us, hl with | [_, _], _ => rfl
  have F9 := fun_mk (st := tp 21) l9 c9 k9
  have b9 := F9.binds (ps := ["table", "rope"]) fun _ _ _ _ _ _ us hl => match us, hl with | [_, _], _ => rfl
  have F10 := fun_mk (st := tp 22) l10 c10 k10
  have b10 := F10.binds (ps := ["fleet", "rope"]) fun _ _ _ _ _ _ us hl => match us, hl with | [_, _], _ => rfl
  have F11 := fun_mk (st := tp 24) l11 c11 k11
  have b11 := F11.binds (ps := ["_law_row", "_law_many"]) fun _ _ _ _ _ _ us hl => match us, hl with | [_, _], _ => rfl
  have F12 := fun_mk (st := tp 25) l12 c12 k12
  have b12 := F12.binds (ps := ["_law_row", "_law_most"]) fun _ _ _ _ _ _ us hl => match us, hl with | [_, _], _ => rfl
  have F13 := fun_mk (st := tp 26) l13 c13 k13
  have b13 := F13.binds (ps := ["_law_fleet_here"]) fun _ _ _ _ _ _ us hl => match us, hl with | [_], _ => rfl
  have F14 := fun_mk (st := tp 27) l14 c14 k14
  have b14 := F14.binds (ps := ["_law_fleet_here"]) fun _ _ _ _ _ _ us hl => match us, hl with | [_], _ => rfl
  have F15 := fun_mk (st := tp 28) l15 c15 k15
  have b15 := F15.binds (ps := ["_law_lengths_here", "_law_front", "_law_rear", "_law_rope"]) fun _ _ _ _ _ _ us hl => match us, hl with | [_, _, _, _], _ => rfl
  have F16 := fun_mk (st := tp 29) l16 c16 k16
  have b16 := F16.binds (ps := ["_law_lengths_here"]) fun _ _ _ _ _ _ us hl => match us, hl with | [_], _ => rfl
  have F17 := fun_mk (st := tp 30) l17 c17 k17
  have b17 := F17.binds (ps := ["_law_script"]) fun _ _ _ _ _ _ us hl => match us, hl with | [_], _ => rfl
  have F18 := fun_mk (st := inClass (tp 14) 0) l18 c18 k18
  have b18 := F18.binds (ps := ["self", "fleet"]) fun _ _ _ _ _ _ us hl => match us, hl with | [_, _], _ => rfl
  have F19 := fun_mk (st := inClass (tp 14) 1) l19 c19 k19
  have b19 := F19.binds (ps := ["self", "pair", "length"]) fun _ _ _ _ _ _ us hl => match us, hl with | [_, _, _], _ => rfl
  have F20 := fun_mk (st := inClass (tp 14) 2) l20 c20 k20
  have b20 := F20.binds (ps := ["self", "middle"]) fun _ _ _ _ _ _ us hl => match us, hl with | [_, _], _ => rfl
  have F21 := fun_mk (st := inClass (tp 14) 3) l21 c21 k21
  have b21 := F21.binds (ps := ["self", "front", "rear"]) fun _ _ _ _ _ _ us hl => match us, hl with | [_, _, _], _ => rfl
  have F22 := fun_mk (st := inClass (tp 14) 4) l22 c22 k22
  have b22 := F22.binds (ps := ["self"]) fun _ _ _ _ _ _ us hl => match us, hl with | [_], _ => rfl
  have wd : Wd ⟨K, tb, clOf C0 E0 E1 E2⟩ ds gcs meth init mg := by
    refine ⟨(show (tb.flds.map (·.2)).Nodup by decide +kernel), ?_, ?_, ?_, ?_, ?_, ?_, ?_, ?_⟩
    · intro f x hx
      have hm := lk_mem hx
      simp only [tb, List.mem_cons, List.not_mem_nil, or_false, Prod.mk.injEq] at hm
      rcases hm with ⟨rfl, rfl⟩ | ⟨rfl, rfl⟩ | ⟨rfl, rfl⟩ | ⟨rfl, rfl⟩ | ⟨rfl, rfl⟩ | ⟨rfl, rfl⟩ | ⟨rfl, rfl⟩ | ⟨rfl, rfl⟩ | ⟨rfl, rfl⟩ | ⟨rfl, rfl⟩ | ⟨rfl, rfl⟩ | ⟨rfl, rfl⟩ | ⟨rfl, rfl⟩ | ⟨rfl, rfl⟩ | ⟨rfl, rfl⟩ | ⟨rfl, rfl⟩ | ⟨rfl, rfl⟩ | ⟨rfl, rfl⟩
      · exact ⟨_, _, _, PySem.W.mg_of X G a0, k0, b0, d9, rfl, F0, rfl⟩
      · exact ⟨_, _, _, PySem.W.mg_of X G a1, k1, b1, d10, rfl, F1, rfl⟩
      · exact ⟨_, _, _, PySem.W.mg_of X G a2, k2, b2, d11, rfl, F2, rfl⟩
      · exact ⟨_, _, _, PySem.W.mg_of X G a3, k3, b3, d12, rfl, F3, rfl⟩
      · exact ⟨_, _, _, PySem.W.mg_of X G a4, k4, b4, d18, rfl, F4, rfl⟩
      · exact ⟨_, _, _, PySem.W.mg_of X G a5, k5, b5, d19, rfl, F5, rfl⟩
      · exact ⟨_, _, _, PySem.W.mg_of X G a6, k6, b6, d20, rfl, F6, rfl⟩
      · exact ⟨_, _, _, PySem.W.mg_of X G a7, k7, b7, d21, rfl, F7, rfl⟩
      · exact ⟨_, _, _, PySem.W.mg_of X G a8, k8, b8, d22, rfl, F8, rfl⟩
      · exact ⟨_, _, _, PySem.W.mg_of X G a9, k9, b9, d50, rfl, F9, rfl⟩
      · exact ⟨_, _, _, PySem.W.mg_of X G a10, k10, b10, d51, rfl, F10, rfl⟩
      · exact ⟨_, _, _, PySem.W.mg_of X G a11, k11, b11, d280, rfl, F11, rfl⟩
      · exact ⟨_, _, _, PySem.W.mg_of X G a12, k12, b12, d224, rfl, F12, rfl⟩
      · exact ⟨_, _, _, PySem.W.mg_of X G a13, k13, b13, d296, rfl, F13, rfl⟩
      · exact ⟨_, _, _, PySem.W.mg_of X G a14, k14, b14, d297, rfl, F14, rfl⟩
      · exact ⟨_, _, _, PySem.W.mg_of X G a15, k15, b15, d298, rfl, F15, rfl⟩
      · exact ⟨_, _, _, PySem.W.mg_of X G a16, k16, b16, d299, rfl, F16, rfl⟩
      · exact ⟨_, _, _, PySem.W.mg_of X G a17, k17, b17, d300, rfl, F17, rfl⟩
    · intro c x hx
      have hm := lk_mem hx
      simp only [tb, List.mem_cons, List.not_mem_nil, or_false, Prod.mk.injEq] at hm
      rcases hm with ⟨rfl, rfl⟩
      · exact ⟨PySem.W.mg_of X G aC0, ⟨pg0, hd0, po0, sa0⟩⟩
    · intro c x f n hx hn
      have hm := lk_mem hx
      have hm2 := lk_mem hn
      simp only [tb, List.mem_cons, List.not_mem_nil, or_false, Prod.mk.injEq] at hm hm2
      rcases hm with ⟨rfl, rfl⟩
      · rcases hm2 with ⟨rfl, rfl⟩ | ⟨rfl, rfl⟩ | ⟨rfl, rfl⟩
        · exact n0_0
        · exact n0_1
        · exact n0_2
    · intro c n f x hm hx
      unfold meth at hm
      split at hm
      · cases hm; cases hx; exact ⟨_, _, _, ⟨a19, i19, k19⟩, b19, d14, rfl, F19, rfl⟩
      · cases hm; cases hx; exact ⟨_, _, _, ⟨a20, i20, k20⟩, b20, d15, rfl, F20, rfl⟩
      · cases hm; cases hx; exact ⟨_, _, _, ⟨a21, i21, k21⟩, b21, d16, rfl, F21, rfl⟩
      · cases hm; cases hx; exact ⟨_, _, _, ⟨a22, i22, k22⟩, b22, d17, rfl, F22, rfl⟩
      · cases hm
    · intro c f hm
      unfold init at hm
      split at hm
      · cases hm; exact ⟨_, _, _, ⟨mk0, a18, i18, kc0⟩, b18, d13, rfl, F18, rfl⟩
      · cases hm
    · intro x hx
      simp only [bltNames, List.mem_cons, List.not_mem_nil, or_false] at hx
      rcases hx with rfl | rfl | rfl | rfl | rfl | rfl | rfl | rfl | rfl | rfl | rfl | rfl | rfl | rfl | rfl | rfl | rfl | rfl
      · exact PySem.W.mg_none_of X G z_len
      · exact PySem.W.mg_none_of X G z_sum
      · exact PySem.W.mg_none_of X G z_min
      · exact PySem.W.mg_none_of X G z_max
      · exact PySem.W.mg_none_of X G z_abs
      · exact PySem.W.mg_none_of X G z_int
      · exact PySem.W.mg_none_of X G z_str
      · exact PySem.W.mg_none_of X G z_tuple
      · exact PySem.W.mg_none_of X G z_list
      · exact PySem.W.mg_none_of X G z_dict
      · exact PySem.W.mg_none_of X G z_sorted
      · exact PySem.W.mg_none_of X G z_all
      · exact PySem.W.mg_none_of X G z_any
      · exact PySem.W.mg_none_of X G z_range
      · exact PySem.W.mg_none_of X G z_enumerate
      · exact PySem.W.mg_none_of X G z_zip
      · exact PySem.W.mg_none_of X G z_isinstance
      · exact PySem.W.mg_none_of X G z_bool
    · intro x i hx
      simp only [gcs, List.mem_cons, List.not_mem_nil, or_false, Prod.mk.injEq] at hx
      rcases hx with ⟨rfl, rfl⟩ | ⟨rfl, rfl⟩ | ⟨rfl, rfl⟩
      · exact ⟨_, PySem.W.mg_of X G g_MAX_BARGES⟩
      · exact ⟨_, PySem.W.mg_of X G g_MAX_LENGTH⟩
      · exact ⟨_, PySem.W.mg_of X G g_MAX_ROPES⟩
    · intro c x hx
      have hm := lk_mem hx
      simp only [tb, List.mem_cons, List.not_mem_nil, or_false, Prod.mk.injEq] at hm
      rcases hm with ⟨rfl, rfl⟩ | ⟨rfl, rfl⟩ | ⟨rfl, rfl⟩
      · exact ⟨PySem.W.mg_of X G aE0, xE0, kE0, bE0, tE0, exm_self bE0 iE0 tE0 sE0⟩
      · exact ⟨PySem.W.mg_of X G aE1, xE1, kE1, bE1, tE1, exm_self bE1 iE1 tE1 sE1⟩
      · exact ⟨PySem.W.mg_of X G aE2, xE2, kE2, bE2, tE2, exm_self bE2 iE2 tE2 sE2⟩
  exact ⟨_, fun s v => .of_eq rfl, fun base _ _ => (all_ok (w := w) wd oks 20 300 _ _ _ ⟨d300, rfl, F17, rfl⟩).imp (law_sp (C := ⟨K, tb, clOf C0 E0 E1 E2⟩) pure_)⟩
theorem walk {l : PySem.W.OpenLaw} {q : Program} {loose : List Str} {XP : (Str → Option Value) → Heap → Prop} {YP : World → Heap → Prop} {d : DefRec} {K : Params → PySem.W.Frag} (hn : l.most = some 63) (hdf : d.params.defaults = [])
    (hY : ∀ (w : World) (h : Heap), YP w h → (K w.params).In h)
    (F : ∀ (w : World) (mg : Str → Option Value) (fa : Addr) (h : Heap), (K w.params).In h → h.Ns mainGlobals mg → mg d.name = some (.ref fa) →
      ∃ fd : FuncData, (∀ (s : Shared) (u : Value), BindsTo s fd ⟨[u], []⟩ [("_law_script", u)]) ∧ ∀ base : Heap, (K w.params).In base → base.Ns mainGlobals mg → FnOk l.prog w (K w.params) mg base (L2.CX l.prog w) (2 * 20) fa fd ["_law_script"] (spL (K w.params))) :
    PySem.W.WalkO q loose XP YP l.row.toRowW d [] (fun f vs => PySem.call f vs) :=
  L2.walk_of (n := 63) (k := 2 * 20) (x := "_law_script") (CX := fun w => L2.CX l.prog w) (sp := fun w => spL (K w.params)) hn (by decide) hdf ⟨rfl, by decide, by decide⟩ hY F
    (fun w H a ns hl hO hS => ⟨a, ns, rfl, hl, sqS_of hO hS, fun _ => rfl⟩) fun w H s e s' h => by
      obtain ⟨_, _, _, _, _, _, _, _, _, _, _, _, z⟩ := h
      exact z.elim
end
end K22
set_option maxRecDepth 100000 in
set_option maxHeartbeats 0 in
open PySem PySem.W PyProof.Rows in
theorem PySem.Challenge.cw_haulropes_k22_whole_chains_and_circles_holds : PySem.Challenge.rw_haulropes_k22_whole_chains_and_circles.Holds := by
  w_on; o_law; k_head; (case hw => w_witness2)
  k_fill
  refine K22.walk (l := PySem.Challenge.rw_haulropes_k22_whole_chains_and_circles) rfl rfl (fun w h Y => PySem.W.kIn_of Y) ?F
  case F =>
    intro w mg fa h KX G hmg
    refine' K22.head KX G hmg K22.pure_ ?aC0 ?pg0 ?hd0 ?po0 ?sa0 ?mk0 ?kc0 ?n0_0 ?n0_1 ?n0_2 ?aE0 ?xE0 ?kE0 ?bE0 ?tE0 ?iE0 ?sE0 ?aE1 ?xE1 ?kE1 ?bE1 ?tE1 ?iE1 ?sE1 ?aE2 ?xE2 ?kE2 ?bE2 ?tE2 ?iE2 ?sE2 ?a0 ?l0 ?c0 ?k0 ?a1 ?l1 ?c1 ?k1 ?a2 ?l2 ?c2 ?k2 ?a3 ?l3 ?c3 ?k3 ?a4 ?l4 ?c4 ?k4 ?a5 ?l5 ?c5 ?k5 ?a6 ?l6 ?c6 ?k6 ?a7 ?l7 ?c7 ?k7 ?a8 ?l8 ?c8 ?k8 ?a9 ?l9 ?c9 ?k9 ?a10 ?l10 ?c10 ?k10 ?a11 ?l11 ?c11 ?k11 ?a12 ?l12 ?c12 ?k12 ?a13 ?l13 ?c13 ?k13 ?a14 ?l14 ?c14 ?k14 ?a15 ?l15 ?c15 ?k15 ?a16 ?l16 ?c16 ?k16 ?a17 ?l17 ?c17 ?k17 ?a18 ?i18 ?l18 ?c18 ?k18 ?a19 ?i19 ?l19 ?c19 ?k19 ?a20 ?i20 ?l20 ?c20 ?k20 ?a21 ?i21 ?l21 ?c21 ?k21 ?a22 ?i22 ?l22 ?c22 ?k22 ?z_len ?z_sum ?z_min ?z_max ?z_abs ?z_int ?z_str ?z_tuple ?z_list ?z_dict ?z_sorted ?z_all ?z_any ?z_range ?z_enumerate ?z_zip ?z_isinstance ?z_bool ?g_MAX_BARGES ?g_MAX_LENGTH ?g_MAX_ROPES
    (case aC0 => k_is)
    (case pg0 => k_is)
    (case hd0 => k_is)
    (case po0 => k_is)
    (case sa0 => k_is)
    (case mk0 => k_is)
    (case kc0 => k_is)
    (case n0_0 => k_is)
    (case n0_1 => k_is)
    (case n0_2 => k_is)
    (case aE0 => k_is)
    (case xE0 => k_exc)
    (case kE0 => k_is)
    (case bE0 => k_is)
    (case tE0 => k_is)
    (case iE0 => k_is)
    (case sE0 => first | rfl | k_is)
    (case aE1 => k_is)
    (case xE1 => k_exc)
    (case kE1 => k_is)
    (case bE1 => k_is)
    (case tE1 => k_is)
    (case iE1 => k_is)
    (case sE1 => first | rfl | k_is)
    (case aE2 => k_is)
    (case xE2 => k_exc)
    (case kE2 => k_is)
    (case bE2 => k_is)
    (case tE2 => k_is)
    (case iE2 => k_is)
    (case sE2 => first | rfl | k_is)
    (case a0 => k_is)
    (case l0 => k_is)
    (case c0 => k_is)
    (case k0 => k_is)
    (case a1 => k_is)
    (case l1 => k_is)
    (case c1 => k_is)
    (case k1 => k_is)
    (case a2 => k_is)
    (case l2 => k_is)
    (case c2 => k_is)
    (case k2 => k_is)
    (case a3 => k_is)
    (case l3 => k_is)
    (case c3 => k_is)
    (case k3 => k_is)
    (case a4 => k_is)
    (case l4 => k_is)
    (case c4 => k_is)
    (case k4 => k_is)
    (case a5 => k_is)
    (case l5 => k_is)
    (case c5 => k_is)
    (case k5 => k_is)
    (case a6 => k_is)
    (case l6 => k_is)
    (case c6 => k_is)
    (case k6 => k_is)
    (case a7 => k_is)
    (case l7 => k_is)
    (case c7 => k_is)
    (case k7 => k_is)
    (case a8 => k_is)
    (case l8 => k_is)
    (case c8 => k_is)
    (case k8 => k_is)
    (case a9 => k_is)
    (case l9 => k_is)
    (case c9 => k_is)
    (case k9 => k_is)
    (case a10 => k_is)
    (case l10 => k_is)
    (case c10 => k_is)
    (case k10 => k_is)
    (case a11 => k_is)
    (case l11 => k_is)
    (case c11 => k_is)
    (case k11 => k_is)
    (case a12 => k_is)
    (case l12 => k_is)
    (case c12 => k_is)
    (case k12 => k_is)
    (case a13 => k_is)
    (case l13 => k_is)
    (case c13 => k_is)
    (case k13 => k_is)
    (case a14 => k_is)
    (case l14 => k_is)
    (case c14 => k_is)
    (case k14 => k_is)
    (case a15 => k_is)
    (case l15 => k_is)
    (case c15 => k_is)
    (case k15 => k_is)
    (case a16 => k_is)
    (case l16 => k_is)
    (case c16 => k_is)
    (case k16 => k_is)
    (case a17 => k_is)
    (case l17 => k_is)
    (case c17 => k_is)
    (case k17 => k_is)
    (case a18 => k_is)
    (case i18 => k_is)
    (case l18 => k_is)
    (case c18 => k_is)
    (case k18 => k_is)
    (case a19 => k_is)
    (case i19 => k_is)
    (case l19 => k_is)
    (case c19 => k_is)
    (case k19 => k_is)
    (case a20 => k_is)
    (case i20 => k_is)
    (case l20 => k_is)
    (case c20 => k_is)
    (case k20 => k_is)
    (case a21 => k_is)
    (case i21 => k_is)
    (case l21 => k_is)
    (case c21 => k_is)
    (case k21 => k_is)
    (case a22 => k_is)
    (case i22 => k_is)
    (case l22 => k_is)
    (case c22 => k_is)
    (case k22 => k_is)
    (case z_len => k_is)
    (case z_sum => k_is)
    (case z_min => k_is)
    (case z_max => k_is)
    (case z_abs => k_is)
    (case z_int => k_is)
    (case z_str => k_is)
    (case z_tuple => k_is)
    (case z_list => k_is)
    (case z_dict => k_is)
    (case z_sorted => k_is)
    (case z_all => k_is)
    (case z_any => k_is)
    (case z_range => k_is)
    (case z_enumerate => k_is)
    (case z_zip => k_is)
    (case z_isinstance => k_is)
    (case z_bool => k_is)
    (case g_MAX_BARGES => k_is)
    (case g_MAX_LENGTH => k_is)
    (case g_MAX_ROPES => k_is)

