import PyProof.Rows.All
import Wide.All
import OpenK.AllK
import Wide.FinOn
import HandS.ForMost
import HandS.Zip
import HandS.IsInst
import HandS.Deep
import HandS.Wide
import HandS.TupLe
import HandS.TupAny
import HandS.Flow
import HandS.Exc
import HandS.CallSlots
import HandS.WordsExc
import HandS.Dict
import HandS.TupMul
import HandS.SortInts
import HandS.Style
import HandS.Lambda
import KE.KExcSuper
import HandS.ExcInit
import HandS.ExcField
import KE.GoesEnum
import KE.KNestM
import HandS.Defaults
import HandS.EndTab
import PySem.Challenge.RW_fairneed_k61_whole_machines_and_what_the
section
set_option Elab.async false
set_option linter.all false
set_option maxRecDepth 100000
/-! Fy1: a small evaluator over plain data for the part of Python that the program uses. No model in sight. -/
namespace Fy
open PySem (Str PyData)

/-- plain data; lists, dicts and instances stand in a store, told by number -/
inductive D where
  | non | bl (b : Bool) | int (i : Int) | str (x : Str) | tup (xs : List D) | fro (xs : List D) | loc (n : Nat) | ty (n : String) | gl (x : Str)

mutual
def D.beq : D → D → Bool
  | .non, .non => true
  | .bl a, .bl b => a == b
  | .int a, .int b => decide (a = b)
  | .str a, .str b => decide (a = b)
  | .tup a, .tup b => D.beqs a b
  | .fro a, .fro b => D.beqs a b
  | .loc a, .loc b => decide (a = b)
  | .ty a, .ty b => decide (a = b)
  | .gl a, .gl b => decide (a = b)
  | _, _ => false
def D.beqs : List D → List D → Bool
  | [], [] => true
  | x :: xs, y :: ys => D.beq x y && D.beqs xs ys
  | _, _ => false
end
mutual
theorem D.beq_eq : ∀ a b : D, D.beq a b = true → a = b
  | .non, b, h => by cases b <;> first | rfl | simp [D.beq] at h
  | .bl a, b, h => by cases b <;> simp_all [D.beq]
  | .int a, b, h => by cases b <;> simp_all [D.beq]
  | .str a, b, h => by cases b <;> simp_all [D.beq]
  | .tup a, b, h => by
    cases b with
    | tup b => exact congrArg D.tup (D.beqs_eq a b (by simpa [D.beq] using h))
    | _ => simp [D.beq] at h
  | .fro a, b, h => by
    cases b with
    | fro b => exact congrArg D.fro (D.beqs_eq a b (by simpa [D.beq] using h))
    | _ => simp [D.beq] at h
  | .loc a, b, h => by cases b <;> simp_all [D.beq]
  | .ty a, b, h => by cases b <;> simp_all [D.beq]
  | .gl a, b, h => by cases b <;> simp_all [D.beq]
theorem D.beqs_eq : ∀ a b : List D, D.beqs a b = true → a = b
  | [], b, h => by cases b <;> first | rfl | simp [D.beqs] at h
  | x :: xs, b, h => by
    cases b with
    | nil => simp [D.beqs] at h
    | cons y ys =>
      have h' : D.beq x y = true ∧ D.beqs xs ys = true := by simpa [D.beqs] using h
      rw [D.beq_eq x y h'.1, D.beqs_eq xs ys h'.2]
end
mutual
theorem D.beq_refl : ∀ a : D, D.beq a a = true
  | .non => by simp [D.beq]
  | .bl a => by simp [D.beq]
  | .int a => by simp [D.beq]
  | .str a => by simp [D.beq]
  | .tup a => by simp [D.beq, D.beqs_refl a]
  | .fro a => by simp [D.beq, D.beqs_refl a]
  | .loc a => by simp [D.beq]
  | .ty a => by simp [D.beq]
  | .gl a => by simp [D.beq]
theorem D.beqs_refl : ∀ a : List D, D.beqs a a = true
  | [] => by simp [D.beqs]
  | x :: xs => by simp [D.beqs, D.beq_refl x, D.beqs_refl xs]
end
instance : DecidableEq D := fun a b => decidable_of_iff (D.beq a b = true) ⟨D.beq_eq a b, fun h => h ▸ D.beq_refl a⟩

/-- a key of a dict -/
abbrev Ky := Sum Int Str
/-- what stands in the store: a list, a dict, an instance of an own class -/
inductive O where
  | lst (xs : List D) | dic (t : Bool) (kvs : List (List Ky × D)) | ins (c : Str) (fs : List (Str × D))
  deriving DecidableEq
abbrev Sto := List O
abbrev Env := List (Option D)
/-- a value: data, or a list that nobody else holds -/
inductive T where
  | v (d : D) | l (xs : List D)
/-- an exception of an own class: its class, what it keeps -/
structure Xc where
  cls : Str
  val : D
inductive R (α : Type) where
  | ok (a : α) (s : Sto) | ex (x : Xc) (s : Sto) | bad
def R.bind {α β : Type} : R α → (α → Sto → R β) → R β
  | .ok a s, f => f a s
  | .ex x s, _ => .ex x s
  | .bad, _ => .bad
@[simp] theorem R.bind_ok {α β : Type} (a : α) (s : Sto) (f : α → Sto → R β) : (R.ok a s).bind f = f a s := rfl
@[simp] theorem R.bind_ex {α β : Type} (x : Xc) (s : Sto) (f : α → Sto → R β) : (R.ex x s : R α).bind f = .ex x s := rfl
@[simp] theorem R.bind_bad {α β : Type} (f : α → Sto → R β) : (R.bad : R α).bind f = .bad := rfl
def ofO {α : Type} : Option α → Sto → R α
  | some a, s => .ok a s
  | none, _ => .bad
@[simp] theorem ofO_some {α : Type} (a : α) (s : Sto) : ofO (some a) s = .ok a s := rfl
@[simp] theorem ofO_none {α : Type} (s : Sto) : ofO (none : Option α) s = .bad := rfl

def LIM : Nat := 16777216
/-- the value, kept: a list goes into the store -/
def T.keep : T → Sto → D × Sto
  | .v d, s => (d, s)
  | .l xs, s => (.loc s.length, s ++ [.lst xs])
def keepR (t : T) (s : Sto) : R D := .ok (t.keep s).1 (t.keep s).2
@[simp] theorem keepR_v (d : D) (s : Sto) : keepR (.v d) s = .ok d s := rfl
@[simp] theorem keepR_l (xs : List D) (s : Sto) : keepR (.l xs) s = .ok (.loc s.length) (s ++ [.lst xs]) := rfl

def lstAt (n : Nat) (s : Sto) : Option (List D) :=
  match s[n]? with
  | some (.lst xs) => some xs
  | _ => none
/-- the items of a list -/
def lstOf : T → Sto → Option (List D)
  | .l xs, _ => some xs
  | .v (.fro xs), _ => some xs
  | .v (.loc n), s => lstAt n s
  | _, _ => none
/-- the items of a list that may be changed -/
def mlstOf : T → Sto → Option (List D)
  | .l xs, _ => some xs
  | .v (.loc n), s => (match s[n]? with | some (.lst xs) => some xs | _ => none)
  | _, _ => none
/-- the items of a list or tuple -/
def seqOf : T → Sto → Option (List D)
  | .v (.tup xs), _ => some xs
  | t, s => lstOf t s

/-! ### dicts -/
def dkA : D → Option Ky
  | .int i => some (.inl i)
  | .str x => some (.inr x)
  | _ => none
/-- the key of a dict of ints and texts -/
def dkey (t : Bool) (d : D) : Option (List Ky) := if t then none else (dkA d).map fun k => [k]
def dval (kvs : List (List Ky × D)) (k : List Ky) : Option D := (kvs.find? fun kv => decide (kv.1 = k)).map (·.2)
def dset (kvs : List (List Ky × D)) (k : List Ky) (v : D) : List (List Ky × D) :=
  if (kvs.any fun kv => decide (kv.1 = k)) = true then kvs.map (fun kv => if kv.1 = k then (kv.1, v) else kv) else kvs ++ [(k, v)]
/-- what the dict o holds at k -/
def dicAt (o k : T) (s : Sto) : Option (Option D) :=
  match o, k with
  | .v (.loc n), .v k => (match s[n]? with
    | some (.dic t kvs) => (dkey t k).map fun k => dval kvs k
    | _ => none)
  | _, _ => none
def isDic (o : T) (s : Sto) : Bool :=
  match o with
  | .v (.loc n) => (match s[n]? with | some (.dic _ _) => true | _ => false)
  | _ => false
def dicPut (o : T) (k v : D) (s : Sto) : Option Sto :=
  match o with
  | .v (.loc n) => (match s[n]? with
    | some (.dic t kvs) => (dkey t k).bind fun k => if kvs.length < LIM then some (s.set n (.dic t (dset kvs k v))) else none
    | _ => none)
  | _ => none
def dicNew (k v : D) (s : Sto) : Option Sto := (dkey false k).map fun k => s ++ [.dic false [(k, v)]]

/-! ### truth, equality, order -/
def truth : T → Sto → Option Bool
  | .v .non, _ => some false
  | .v (.bl b), _ => some b
  | .v (.int i), _ => some (i != 0)
  | .v (.str x), _ => if x.length ≤ LIM then some ((x.length : Int) != 0) else none
  | t, s => (seqOf t s).map fun xs => !xs.isEmpty
mutual
def D.py : D → Option PyData
  | .non => some .none
  | .bl b => some (.bool b)
  | .int i => some (.int i)
  | .str x => some (.str x)
  | .tup xs => (D.pys xs).map .tuple
  | _ => none
def D.pys : List D → Option (List PyData)
  | [] => some []
  | x :: xs => (D.py x).bind fun d => (D.pys xs).map fun ds => d :: ds
end
def pyOf : T → Sto → Option PyData
  | .l xs, _ => (D.pys xs).map .list
  | .v (.loc n), s => (lstAt n s).bind fun xs => (D.pys xs).map .list
  | .v d, _ => D.py d
/-- ==, where both are flat, or both are nested data -/
def eqT (x y : T) (s : Sto) : Option Bool :=
  match x, y with
  | .v .non, .v .non => some true
  | .v (.bl a), .v (.bl b) => some (a == b)
  | .v (.int a), .v (.int b) => some (decide (a = b))
  | .v (.str a), .v (.str b) => some (decide (a = b))
  | x, y => (pyOf x s).bind fun d => (pyOf y s).bind fun e => if PySem.SeqAt.shaped d && PySem.SeqAt.shaped e then some (PyData.eqv d e) else none
def intsD : List D → Option (List Int)
  | [] => some []
  | .int i :: xs => (intsD xs).map fun is => i :: is
  | _ => none
def ordI (op : Nat) (a b : Int) : Bool :=
  match op with
  | 0 => decide (a < b)
  | 1 => decide (a ≤ b)
  | 2 => decide (b < a)
  | _ => decide (b ≤ a)
/-- rows of intsD, compared at the first place where they differ -/
def ordL (op : Nat) : List Int → List Int → Bool
  | [], [] => ordI op 0 0
  | [], _ :: _ => ordI op 0 1
  | _ :: _, [] => ordI op 1 0
  | x :: xs, y :: ys => if x = y then ordL op xs ys else ordI op x y
/-- <, <=, >, >= of two intsD, or of two tuples of intsD -/
def ordT (op : Nat) (x y : T) : Option Bool :=
  match x, y with
  | .v (.int a), .v (.int b) => some (ordI op a b)
  | .v (.tup a), .v (.tup b) => (intsD a).bind fun a => (intsD b).map fun b => ordL op a b
  | _, _ => none
def flat : D → Bool
  | .non => true
  | .bl _ => true
  | .int _ => true
  | .str _ => true
  | _ => false
/-- == of flat values -/
def eqF : D → D → Bool
  | .non, .non => true
  | .bl a, .bl b => a == b
  | .bl a, .int b => (if a then 1 else 0) == b
  | .int a, .bl b => a == (if b then 1 else 0)
  | .int a, .int b => a == b
  | .str a, .str b => a == b
  | _, _ => false
/-- x in a list or tuple: all flat, or all nested data -/
def inT (x y : T) (s : Sto) : Option Bool :=
  match dicAt y x s with
  | some o => some o.isSome
  | none => match x with
  | .v d => (seqOf y s).bind fun xs =>
    if flat d && xs.all flat then some (xs.any fun z => eqF z d)
    else match y with
      | .v (.tup _) => none
      | _ => (D.py d).bind fun d => (D.pys xs).bind fun ds => if PySem.SeqAt.shaped d && PySem.SeqAt.shaped (.list ds) then some (ds.any fun z => PyData.eqv z d) else none
  | _ => none
inductive Cop where
  | eq | ne | lt | le | gt | ge | is | isnot | inn | notin
/-- is, with None, True or False at the right -/
def isT (x y : T) : Option Bool :=
  match x, y with
  | .v d, .v .non => some (match d with | .non => true | _ => false)
  | .l _, .v .non => some false
  | .v (.bl a), .v (.bl b) => some (a == b)
  | _, _ => none
def cmpT (op : Cop) (x y : T) (s : Sto) : Option Bool :=
  match op with
  | .eq => eqT x y s
  | .ne => (eqT x y s).map (!·)
  | .lt => ordT 0 x y
  | .le => ordT 1 x y
  | .gt => ordT 2 x y
  | .ge => ordT 3 x y
  | .is => isT x y
  | .isnot => (isT x y).map (!·)
  | .inn => inT x y s
  | .notin => (inT x y s).map (!·)

/-! ### operators, items, slices -/
inductive Bop where
  | add | sub | mul | fdiv | mod | pow
/-- the sizes that are served -/
def mulOk (a b : Int) : Bool := decide (a.natAbs.log2 + b.natAbs.log2 < 1000000)
def divOk (b : Int) : Bool := decide (0 < b) && decide (b.natAbs.log2 < 9000)
theorem log_lt {i : Int} {k : Nat} (h : i.natAbs < 2 ^ k) (h0 : 0 < k) : i.natAbs.log2 < k := PySem.Flt.log2_lt_of h0 h
theorem mulOk_of {a b : Int} (ha : a.natAbs < 2 ^ 240) (hb : b.natAbs < 2 ^ 240) : mulOk a b = true := by
  have h1 := log_lt ha (by decide)
  have h2 := log_lt hb (by decide)
  exact decide_eq_true (by omega)
theorem divOk_of {b : Int} (h : 0 < b) (hb : b.natAbs < 2 ^ 240) : divOk b = true := by
  have h2 := log_lt hb (by decide)
  unfold divOk
  rw [decide_eq_true h, decide_eq_true (by omega)]
  rfl
def binT (op : Bop) (x y : T) (s : Sto) : Option T :=
  match op, x, y with
  | .add, .v (.int a), .v (.int b) => some (.v (.int (a + b)))
  | .sub, .v (.int a), .v (.int b) => some (.v (.int (a - b)))
  | .mul, .v (.int a), .v (.int b) => if mulOk a b then some (.v (.int (a * b))) else none
  | .fdiv, .v (.int a), .v (.int b) => if divOk b then some (.v (.int (a / b))) else none
  | .mod, .v (.int a), .v (.int b) => if 0 < b then some (.v (.int (a % b))) else none
  | .mul, .v (.tup a), .v (.int b) => if 2 ≤ b ∧ b ≤ 10000 ∧ a.length ≤ 1000 ∧ a ≠ [] then some (.v (.tup (List.replicate b.toNat a).flatten)) else none
  | .pow, .v (.int a), .v (.int b) => if 0 ≤ b ∧ b ≤ 1000000 ∧ a.natAbs < 2 ^ 64 then some (.v (.int (a ^ b.toNat))) else none
  | .add, .v (.str a), .v (.str b) => if a.length + b.length ≤ LIM then some (.v (.str (a ++ b))) else none
  | .add, .v (.tup a), .v (.tup b) => if a.length + b.length ≤ LIM then some (.v (.tup (a ++ b))) else none
  | .add, x, y => (mlstOf x s).bind fun a => (mlstOf y s).bind fun b => if a.length + b.length ≤ LIM then some (.l (a ++ b)) else none
  | _, _, _ => none
def idxT (x y : T) (s : Sto) : Option T :=
  match dicAt x y s with
  | some o => o.map .v
  | none => match y with
    | .v (.int i) => ((seqOf x s).bind fun xs => L2.atI xs i).map .v
    | _ => none
def cutD (xs : List D) (lo hi : Option Int) : List D := (xs.drop (HT.sIx xs.length 0 lo)).take (HT.sIx xs.length xs.length hi - HT.sIx xs.length 0 lo)
def slcT (x : T) (lo hi : Option Int) (s : Sto) : Option T :=
  match x with
  | .v (.tup xs) => some (.v (.tup (cutD xs lo hi)))
  | x => (lstOf x s).map fun xs => .l (cutD xs lo hi)

/-! ### methods of lists -/
inductive Lm where
  | ext | pop | idx
def isLst (t : T) (s : Sto) : Option T := (lstOf t s).map fun _ => t
/-- the first place of a value in a list: all flat, or all nested data -/
def idxD (xs : List D) (y : D) : Option T :=
  if flat y && xs.all flat then (xs.findIdx? fun z => eqF z y).map fun j => .v (.int (j : Nat))
  else (D.py y).bind fun d => (D.pys xs).bind fun ds => if PySem.SeqAt.shaped d && PySem.SeqAt.shaped (.list ds) then (ds.findIdx? fun z => PyData.eqv z d).map fun j => .v (.int (j : Nat)) else none
def appT (t : T) (ds : List D) (s : Sto) : R T :=
  match t, ds with
  | .v (.loc n), [d] => (match s[n]? with
    | some (.lst xs) => if xs.length < LIM then .ok (.v .non) (s.set n (.lst (xs ++ [d]))) else .bad
    | _ => .bad)
  | _, _ => .bad
def meT (m : Lm) (t : T) (ts : List T) (s : Sto) : R T :=
  match m, t, ts with
  | .ext, .v (.loc n), [x] => (match s[n]?, mlstOf x s with
    | some (.lst xs), some ys => if xs.length + ys.length ≤ LIM then .ok (.v .non) (s.set n (.lst (xs ++ ys))) else .bad
    | _, _ => .bad)
  | .pop, .v (.loc n), [] => (match s[n]? with
    | some (.lst xs) => (match xs[xs.length - 1]? with
      | some y => .ok (.v y) (s.set n (.lst xs.dropLast))
      | none => .bad)
    | _ => .bad)
  | .idx, t, [.v y] => (match lstOf t s with
    | some xs => ofO (idxD xs y) s
    | none => .bad)
  | _, _, _ => .bad

/-! ### built-ins -/
inductive Bi where
  | len | int | abs | isinst | all | any | tuple | list | min | max | sum | sorted
def bools : List D → Option (List Bool)
  | [] => some []
  | .bl b :: xs => (bools xs).map fun bs => b :: bs
  | _ => none
/-- the built-in class of a value -/
def tyOf : T → Sto → Option String
  | .v .non, _ => some "NoneType"
  | .v (.bl _), _ => some "bool"
  | .v (.int _), _ => some "int"
  | .v (.str _), _ => some "str"
  | .v (.tup _), _ => some "tuple"
  | .v (.fro _), _ => some "list"
  | .l _, _ => some "list"
  | .v (.loc n), s => (lstAt n s).map fun _ => "list"
  | _, _ => none
def isSub (t c : String) : Bool := t == c || (t == "bool" && c == "int")
def kinds : List String := ["int", "bool", "str", "tuple", "list"]
def biT (f : Bi) (xs : List T) (s : Sto) : Option T :=
  match f, xs with
  | .len, [x] => (match x with
    | .v (.str z) => if z.length ≤ LIM then some (.v (.int z.length)) else none
    | x => (seqOf x s).map fun xs => .v (.int xs.length))
  | .int, [.v (.int i)] => some (.v (.int i))
  | .int, [.v (.bl b)] => some (.v (.int (if b then 1 else 0)))
  | .abs, [.v (.int i)] => some (.v (.int (if i < 0 then -i else i)))
  | .isinst, [x, .v (.ty c)] => (tyOf x s).bind fun t => if c ∈ kinds then some (.v (.bl (isSub t c))) else none
  | .all, [x] => ((lstOf x s).bind bools).map fun bs => .v (.bl (bs.all id))
  | .any, [x] => ((lstOf x s).bind bools).map fun bs => .v (.bl (bs.any id))
  | .tuple, [x] => (seqOf x s).map fun xs => .v (.tup xs)
  | .list, [x] => (seqOf x s).map fun xs => .l xs
  | .min, [.v (.int a), .v (.int b)] => some (.v (.int (if b < a then b else a)))
  | .max, [.v (.int a), .v (.int b)] => some (.v (.int (if b > a then b else a)))
  | .sum, [x] => ((lstOf x s).bind intsD).map fun is => .v (.int is.sum)
  | .sorted, [x] => ((lstOf x s).bind intsD).map fun is => .l ((is.mergeSort fun a b => decide (a ≤ b)).map .int)
  | _, _ => none

/-! ### the text -/
mutual
inductive E where
  | var (i : Nat) | int (n : Int) | bl (b : Bool) | non | str (x : Str)
  | tyn (x : Str) (T : String) | con (x : Str) (d : D)
  | bin (op : Bop) (a b : E) | neg (a : E) | cmp (op : Cop) (a b : E) | chain (op op' : Cop) (a b c : E)
  | and2 (a b : E) | or2 (a b : E) | not1 (a : E) | ite (c a b : E)
  | tup (es : Es) | lst (es : Es) | idx (a i : E) | slc (a : E) (lo hi : Eo)
  | dnew | dic1 (k v : E) | dget2 (a k e : E)
  | call (f : Str) (es : Es) | bi (f : Bi) (es : Es) | me (m : Lm) (o : E) (es : Es) | app (o : E) (es : Es) | heard (f c : Str) (e : E)
  | lc (own : List (Str × Nat)) (tg : Tg) (it : It) (c : Eo) (e : E)
inductive Es where
  | nil | cons (e : E) (es : Es)
inductive Eo where
  | none | some (e : E)
inductive It where
  | seq (e : E) | rng (es : Es) | zip (a b : E) | enum (a : E)
inductive Tg where
  | nm (i : Nat) | tp (ts : Tgs)
inductive Tgs where
  | nil | cons (t : Tg) (ts : Tgs)
end
mutual
inductive S where
  | asg (t : Tg) (e : E) | asgLc (i : Nat) (own : List (Str × Nat)) (tg : Tg) (it : It) (c : Eo) (e : E) | par2 (i j : Nat) (a b : E) | par3 (i j l : Nat) (a b c : E) | aug (i : Nat) (op : Bop) (e : E) | put (o i e : E)
  | ite (c : E) (a b : Ss) | for_ (t : Tg) (it : It) (b : Ss) | while_ (c : E) (b : Ss)
  | raise (c : Str) (es : Es) | ret (e : E) | ret0 | expr (e : E) | brk | cont | pass
inductive Ss where
  | nil | cons (s : S) (r : Ss)
end

/-! ### targets -/
mutual
def bindT : Tg → D → Env → Option Env
  | .nm i, d, ρ => some (ρ.set i (some d))
  | .tp ts, .tup xs, ρ => if xs.length = Tgs.len ts then bindTs ts xs ρ else none
  | .tp _, _, _ => none
def bindTs : Tgs → List D → Env → Option Env
  | .nil, [], ρ => some ρ
  | .cons t ts, x :: xs, ρ => (bindT t x ρ).bind fun ρ => bindTs ts xs ρ
  | _, _, _ => none
def Tgs.len : Tgs → Nat
  | .nil => 0
  | .cons _ ts => ts.len + 1
end
def wipeE (ρ : Env) : List Nat → Env
  | [] => ρ
  | v :: vs => (wipeE ρ vs).set v none

mutual
def Tg.slots : Tg → List Nat
  | .nm i => [i]
  | .tp ts => ts.slots
def Tgs.slots : Tgs → List Nat
  | .nil => []
  | .cons t ts => t.slots ++ ts.slots
end

/-! ### what is walked: the items, and the lists of the store that must stand still -/
structure Items where
  xs : List D
  src : List (Nat × List D)
def stands (src : List (Nat × List D)) (s : Sto) : Bool := src.all fun p => decide (lstAt p.1 s = some p.2)
def itemsOf (t : T) (s : Sto) : Option Items :=
  match t with
  | .v (.tup xs) => some ⟨xs, []⟩
  | .v (.fro xs) => some ⟨xs, []⟩
  | .l xs => some ⟨xs, []⟩
  | .v (.loc n) => (lstAt n s).map fun xs => ⟨xs, [(n, xs)]⟩
  | _ => none
def rangeD (lo hi : Int) : Option Items :=
  if lo.natAbs < 2 ^ 62 ∧ hi.natAbs < 2 ^ 62 then some ⟨(List.range (hi - lo).toNat).map fun i => D.int (lo + (i : Nat)), []⟩ else none
def rangeOf : List D → Option Items
  | [.int j] => rangeD 0 j
  | [.int i, .int j] => rangeD i j
  | _ => none
/-- zip of two tuples or of two lists -/
def zipOf (a b : T) (s : Sto) : Option Items :=
  match a, b with
  | .v (.tup xs), .v (.tup ys) => some ⟨(xs.zip ys).map fun p => .tup [p.1, p.2], []⟩
  | .v (.tup _), _ => none
  | _, .v (.tup _) => none
  | a, b => (itemsOf a s).bind fun p => (itemsOf b s).map fun q => ⟨(p.xs.zip q.xs).map fun p => .tup [p.1, p.2], p.src ++ q.src⟩

/-- enumerate of a list or tuple -/
def enumOf (t : T) (s : Sto) : Option Items := (itemsOf t s).map fun I => ⟨I.xs.zipIdx.map fun p => .tup [.int (p.2 : Nat), p.1], I.src⟩

/-! ### the evaluator -/
/-- f(lambda: e), where f tells what it heard -/
def heardF (c : Str) (fe : Env → Sto → R T) : Env → Sto → R T := fun ρ s => match fe ρ s with
  | .ok _ s' => .ok (.v .non) s'
  | .ex x s' => if x.cls = c then .ok (.v x.val) s' else .bad
  | .bad => .bad
abbrev CallF := Str → List D → Sto → R T
def lcLoop (f : D → Sto → R (Option D)) (src : List (Nat × List D)) : List D → List D → Sto → R T
  | [], acc, s => if stands src s then .ok (.l acc) s else .bad
  | x :: xs, acc, s => if stands src s then
      match f x s with
      | .ok (some d) s' => if acc.length < LIM then lcLoop f src xs (acc ++ [d]) s' else .bad
      | .ok none s' => lcLoop f src xs acc s'
      | _ => .bad
    else .bad
/-- a turn of a comprehension -/
def lcF (tg : Tg) (vs : List Nat) (ρ : Env) (fc : Env → Sto → R Bool) (fe : Env → Sto → R T) : D → Sto → R (Option D) := fun x s =>
  match bindT tg x (wipeE ρ vs) with
  | none => .bad
  | some ρ' => (fc ρ' s).bind fun b s => if b then (fe ρ' s).bind fun t s => (keepR t s).bind fun d s => .ok (some d) s else .ok none s
mutual
def evE (cf : CallF) : E → Env → Sto → R T
  | .var i, ρ, s => match ρ[i]? with | some (some d) => .ok (.v d) s | _ => .bad
  | .int n, _, s => .ok (.v (.int n)) s
  | .bl b, _, s => .ok (.v (.bl b)) s
  | .non, _, s => .ok (.v .non) s
  | .str x, _, s => .ok (.v (.str x)) s
  | .tyn _ t, _, s => .ok (.v (.ty t)) s
  | .con _ d, _, s => .ok (.v d) s
  | .bin op a b, ρ, s => (evE cf a ρ s).bind fun x s => (evE cf b ρ s).bind fun y s => ofO (binT op x y s) s
  | .neg a, ρ, s => (evE cf a ρ s).bind fun x s => match x with | .v (.int i) => .ok (.v (.int (-i))) s | _ => .bad
  | .cmp op a b, ρ, s => (evE cf a ρ s).bind fun x s => (evE cf b ρ s).bind fun y s => ofO ((cmpT op x y s).map fun b => .v (.bl b)) s
  | .chain op op' a b c, ρ, s => (evE cf a ρ s).bind fun x s => (evE cf b ρ s).bind fun y s =>
      match cmpT op x y s with
      | some true => (evE cf c ρ s).bind fun z s => ofO ((cmpT op' y z s).map fun b => .v (.bl b)) s
      | some false => .ok (.v (.bl false)) s
      | none => .bad
  | .and2 a b, ρ, s => (evE cf a ρ s).bind fun x s => match truth x s with | some true => evE cf b ρ s | some false => .ok x s | none => .bad
  | .or2 a b, ρ, s => (evE cf a ρ s).bind fun x s => match truth x s with | some false => evE cf b ρ s | some true => .ok x s | none => .bad
  | .not1 a, ρ, s => (evE cf a ρ s).bind fun x s => match truth x s with | some b => .ok (.v (.bl (!b))) s | none => .bad
  | .ite c a b, ρ, s => (evE cf c ρ s).bind fun x s => match truth x s with | some true => evE cf a ρ s | some false => evE cf b ρ s | none => .bad
  | .tup es, ρ, s => (evEs cf es ρ s).bind fun xs s => if xs.length ≤ LIM then .ok (.v (.tup xs)) s else .bad
  | .lst es, ρ, s => (evEs cf es ρ s).bind fun xs s => if xs.length ≤ LIM then .ok (.l xs) s else .bad
  | .idx a i, ρ, s => (evE cf a ρ s).bind fun x s => (evE cf i ρ s).bind fun y s => ofO (idxT x y s) s
  | .slc a lo hi, ρ, s => (evE cf a ρ s).bind fun x s => (evEo cf lo ρ s).bind fun lo s => (evEo cf hi ρ s).bind fun hi s => ofO (slcT x lo hi s) s
  | .dnew, _, s => .ok (.v (.loc s.length)) (s ++ [.dic false []])
  | .dic1 k v, ρ, s => (evE cf k ρ s).bind fun x s => (keepR x s).bind fun k s => (evE cf v ρ s).bind fun y s => (keepR y s).bind fun v s => match dicNew k v s with | some s' => .ok (.v (.loc s.length)) s' | none => .bad
  | .dget2 a k e, ρ, s => (evE cf a ρ s).bind fun x s => if isDic x s then (evE cf k ρ s).bind fun y s => (evE cf e ρ s).bind fun z s => (keepR z s).bind fun z s => ofO ((dicAt x y s).map fun o => .v (o.getD z)) s else .bad
  | .call f es, ρ, s => (evEs cf es ρ s).bind fun xs s => cf f xs s
  | .bi f es, ρ, s => (evTs cf es ρ s).bind fun xs s => ofO (biT f xs s) s
  | .heard _ c e, ρ, s => (match evE cf e ρ s with
      | .ok _ s' => .ok (.v .non) s'
      | .ex x s' => if x.cls = c then .ok (.v x.val) s' else .bad
      | .bad => .bad)
  | .app o es, ρ, s => (evE cf o ρ s).bind fun t s => (ofO (isLst t s) s).bind fun t s => (evEs cf es ρ s).bind fun ds s => appT t ds s
  | .me m o es, ρ, s => (evE cf o ρ s).bind fun t s => (ofO (isLst t s) s).bind fun t s => (evTs cf es ρ s).bind fun ts s => meT m t ts s
  | .lc own tg it c e, ρ, s => (evIt cf it ρ s).bind fun I s => lcLoop (lcF tg (own.map (·.2)) ρ (evC cf c) (evE cf e)) I.src I.xs [] s
def evEs (cf : CallF) : Es → Env → Sto → R (List D)
  | .nil, _, s => .ok [] s
  | .cons e es, ρ, s => (evE cf e ρ s).bind fun t s => (keepR t s).bind fun d s => (evEs cf es ρ s).bind fun ds s => .ok (d :: ds) s
/-- arguments of a built-in: their lists are not kept -/
def evTs (cf : CallF) : Es → Env → Sto → R (List T)
  | .nil, _, s => .ok [] s
  | .cons e es, ρ, s => (evE cf e ρ s).bind fun t s => (evTs cf es ρ s).bind fun ts s => .ok (t :: ts) s
/-- a part of a slice -/
def evEo (cf : CallF) : Eo → Env → Sto → R (Option Int)
  | .none, _, s => .ok none s
  | .some e, ρ, s => (evE cf e ρ s).bind fun t s => match t with | .v (.int i) => .ok (some i) s | _ => .bad
/-- a test that may be left out -/
def evC (cf : CallF) : Eo → Env → Sto → R Bool
  | .none, _, s => .ok true s
  | .some e, ρ, s => (evE cf e ρ s).bind fun t s => ofO (truth t s) s
def evIt (cf : CallF) : It → Env → Sto → R Items
  | .seq e, ρ, s => (evE cf e ρ s).bind fun t s => ofO (itemsOf t s) s
  | .rng es, ρ, s => (evEs cf es ρ s).bind fun xs s => ofO (rangeOf xs) s
  | .zip a b, ρ, s => (evE cf a ρ s).bind fun x s => (evE cf b ρ s).bind fun y s => ofO (zipOf x y s) s
  | .enum a, ρ, s => (evE cf a ρ s).bind fun t s => ofO (enumOf t s) s
end

/-- where a statement ends -/
inductive Fl where
  | nx (ρ : Env) (s : Sto) | rt (t : T) (s : Sto) | bk (ρ : Env) (s : Sto) | ct (ρ : Env) (s : Sto) | ex (ρ : Env) (x : Xc) (s : Sto) | bad
def R.fl {α : Type} (ρ : Env) : R α → (α → Sto → Fl) → Fl
  | .ok a s, f => f a s
  | .ex x s, _ => .ex ρ x s
  | .bad, _ => .bad
@[simp] theorem R.fl_ok {α : Type} (ρ : Env) (a : α) (s : Sto) (f : α → Sto → Fl) : (R.ok a s).fl ρ f = f a s := rfl
@[simp] theorem R.fl_ex {α : Type} (ρ : Env) (x : Xc) (s : Sto) (f : α → Sto → Fl) : (R.ex x s : R α).fl ρ f = .ex ρ x s := rfl
@[simp] theorem R.fl_bad {α : Type} (ρ : Env) (f : α → Sto → Fl) : (R.bad : R α).fl ρ f = .bad := rfl
/-- what follows where it goes on -/
def Fl.then : Fl → (Env → Sto → Fl) → Fl
  | .nx ρ s, f => f ρ s
  | x, _ => x
/-- behind a turn of a loop -/
def Fl.turn : Fl → (Env → Sto → Fl) → Fl
  | .nx ρ s, f => f ρ s
  | .ct ρ s, f => f ρ s
  | .bk ρ s, _ => .nx ρ s
  | x, _ => x
def forLoop (f : D → Env → Sto → Fl) (src : List (Nat × List D)) : List D → Env → Sto → Fl
  | [], ρ, s => if stands src s then .nx ρ s else .bad
  | x :: xs, ρ, s => if stands src s then (f x ρ s).turn fun ρ s => forLoop f src xs ρ s else .bad
/-- a turn of a for -/
def forF (t : Tg) (fb : Env → Sto → Fl) : D → Env → Sto → Fl := fun x ρ s => match bindT t x ρ with | some ρ => fb ρ s | none => .bad
theorem forF_ap (t : Tg) (fb : Env → Sto → Fl) (x : D) (ρ : Env) (s : Sto) : forF t fb x ρ s = match bindT t x ρ with | some ρ => fb ρ s | none => .bad := rfl
/-- the test of a while -/
def whC (fc : Env → Sto → R T) : Env → Sto → R Bool := fun ρ s => (fc ρ s).bind fun x s => ofO (truth x s) s
def whileLoop (c : Env → Sto → R Bool) (f : Env → Sto → Fl) : Nat → Env → Sto → Fl
  | 0, _, _ => .bad
  | n + 1, ρ, s => (c ρ s).fl ρ fun b s => if b then (f ρ s).turn fun ρ s => whileLoop c f n ρ s else .nx ρ s
def putAt (o : T) (i d : D) (s : Sto) : Option Sto :=
  match dicPut o i d s with
  | some s => some s
  | none => match o, i with
  | .v (.loc n), .int k => (match s[n]? with
    | some (.lst xs) => (L2.ixN xs.length k).map fun j => s.set n (.lst (xs.set j d))
    | _ => none)
  | _, _ => none
def augT (op : Bop) (a : Int) (y : T) : Option Int :=
  match op, y with
  | .add, .v (.int b) => some (a + b)
  | .sub, .v (.int b) => some (a - b)
  | _, _ => none
mutual
def evS (cf : CallF) (wf : Nat) : S → Env → Sto → Fl
  | .asg t e, ρ, s => (evE cf e ρ s).fl ρ fun x s => (keepR x s).fl ρ fun d s => match bindT t d ρ with | some ρ => .nx ρ s | none => .bad
  | .asgLc i own tg it c e, ρ, s => (evE cf (.lc own tg it c e) ρ s).fl ρ fun x s => (keepR x s).fl ρ fun d s => .nx (ρ.set i (some d)) s
  | .par2 i j a b, ρ, s => (evE cf a ρ s).fl ρ fun x s => (keepR x s).fl ρ fun d s => (evE cf b ρ s).fl ρ fun y s => (keepR y s).fl ρ fun e s => .nx ((ρ.set i (some d)).set j (some e)) s
  | .par3 i j l a b c, ρ, s => (evEs cf (.cons a (.cons b (.cons c .nil))) ρ s).fl ρ fun ds s => match ds with | [d, e, f] => .nx (((ρ.set i (some d)).set j (some e)).set l (some f)) s | _ => .bad
  | .aug i op e, ρ, s => match ρ[i]? with
      | some (some (.int a)) => (evE cf e ρ s).fl ρ fun y s => match augT op a y with
        | some c => .nx (ρ.set i (some (.int c))) s
        | none => .bad
      | _ => .bad
  | .put o i e, ρ, s => (evE cf e ρ s).fl ρ fun x s => (keepR x s).fl ρ fun d s => (evE cf o ρ s).fl ρ fun o s => (evE cf i ρ s).fl ρ fun y s => match y with
      | .v k => (match putAt o k d s with | some s => .nx ρ s | none => .bad)
      | _ => .bad
  | .ite c a b, ρ, s => (evE cf c ρ s).fl ρ fun x s => match truth x s with | some true => evSs cf wf a ρ s | some false => evSs cf wf b ρ s | none => .bad
  | .for_ t it b, ρ, s => (evIt cf it ρ s).fl ρ fun I s => forLoop (forF t (evSs cf wf b)) I.src I.xs ρ s
  | .while_ c b, ρ, s => whileLoop (whC (evE cf c)) (evSs cf wf b) wf ρ s
  | .ret e, ρ, s => (evE cf e ρ s).fl ρ fun x s => .rt x s
  | .ret0, _, s => .rt (.v .non) s
  | .raise c es, ρ, s => (evEs cf es ρ s).fl ρ fun ds s => match ds with | [d] => .ex ρ ⟨c, d⟩ s | _ => .bad
  | .expr e, ρ, s => (evE cf e ρ s).fl ρ fun _ s => .nx ρ s
  | .brk, ρ, s => .bk ρ s
  | .cont, ρ, s => .ct ρ s
  | .pass, ρ, s => .nx ρ s
def evSs (cf : CallF) (wf : Nat) : Ss → Env → Sto → Fl
  | .nil, ρ, s => .nx ρ s
  | .cons st r, ρ, s => (evS cf wf st ρ s).then fun ρ s => evSs cf wf r ρ s
end

/-! ### calls; what a call leaves behind goes -/
mutual
def D.under (n : Nat) : D → Bool
  | .loc m => decide (m < n)
  | .tup xs => D.unders n xs
  | .fro xs => D.unders n xs
  | _ => true
def D.unders (n : Nat) : List D → Bool
  | [] => true
  | x :: xs => D.under n x && D.unders n xs
end
def O.under (n : Nat) : O → Bool
  | .lst xs => D.unders n xs
  | .dic _ kvs => kvs.all fun kv => D.under n kv.2
  | .ins _ fs => fs.all fun f => D.under n f.2
/-- the first n of the store are kept, if nothing leads further -/
def tidy (n : Nat) (t : T) (s : Sto) : R T :=
  if (s.take n).all (O.under n) then
    match t with
    | .v (.loc m) => if m < n then .ok t (s.take n) else match s[m]? with
      | some (.lst xs) => if D.unders n xs then .ok (.l xs) (s.take n) else .ok t s
      | _ => .ok t s
    | .v d => if D.under n d then .ok t (s.take n) else .ok t s
    | .l xs => if D.unders n xs then .ok t (s.take n) else .ok t s
  else .ok t s
/-- a def: its parameters, how many names, its body -/
structure Fn where
  np : Nat
  nn : Nat
  dv : List D
  body : Ss
/-- the text: its defs, its constants -/
structure Tab where
  fn : Str → Option Fn
  cs : Str → Option D
  xc : Str → Bool
  hd : Str → Option Str
  lam : Bool
/-- .. where no lambda may be made -/
def Tab.off (tb : Tab) : Tab := { tb with lam := false }
def Tab.flag (tb : Tab) (b : Bool) : Tab := { tb with lam := b }
instance : CoeFun Tab fun _ => Str → Option Fn := ⟨Tab.fn⟩
/-- the arguments, then the last of the defaults -/
def Fn.fill (d : Fn) (xs : List D) : List D := xs ++ d.dv.drop (d.dv.length + xs.length - d.np)
def Fl.res (n : Nat) : Fl → R T
  | .nx _ s => tidy n (.v .non) s
  | .rt t s => tidy n t s
  | .ex _ x s => if (s.take n).all (O.under n) && D.under n x.val then .ex x (s.take n) else .ex x s
  | _ => .bad
def run (tb : Tab) (wf : Nat) : Nat → CallF
  | 0, _, _, _ => .bad
  | k + 1, f, xs, s => match tb f with
    | some d => if (d.fill xs).length = d.np then (evSs (run tb wf k) wf d.body ((d.fill xs).map some ++ List.replicate (d.nn - d.np) none) s).res s.length else .bad
    | none => .bad
theorem run_off (tb : Tab) (wf : Nat) : ∀ k, run tb.off wf k = run tb wf k
  | 0 => rfl
  | k + 1 => by
    funext f xs s
    simp only [run, run_off tb wf k]
    rfl
theorem run_flag (tb : Tab) (b : Bool) (wf : Nat) : ∀ k, run (tb.flag b) wf k = run tb wf k
  | 0 => rfl
  | k + 1 => by
    funext f xs s
    simp only [run, run_flag tb b wf k]
    rfl
end Fy
end
section
set_option Elab.async false
set_option linter.all false
set_option maxRecDepth 100000
/-! Fy2: how data and store lie in the abstract heap. -/
namespace Fy
open PySem PySem.Spec PyProof.Rows L2

/-- the written part; where the text's own defs and classes stand -/
structure Glo where
  K : PySem.W.Frag
  ga : Str → Addr
  T : List (Addr × Str)

/-- a list that nobody may change: locked, or of the written part -/
def SqF (K : PySem.W.Frag) (H : Hp) (a : Addr) (xs : List V) : Prop :=
  (∃ o, H a = some (.frz o (.lst xs))) ∨ ∃ (o : Obj) (its : Array Value) (n : Nat), K.lookup a = some o ∧ o.cls = .type "list" ∧ o.dict = none ∧ o.data = .seq its n ∧ its.size ≤ sizeLine ∧ Vals xs its.toList
theorem SqF.list {K : PySem.W.Frag} {H : Hp} {a : Addr} {xs : List V} (h : SqF K H a xs) : SqL K H a xs := h.elim (fun q => .inl (.inr q)) .inr
mutual
/-- d is the value v -/
inductive RD (g : Glo) (ι : List Addr) (H : Hp) : D → V → Prop
  | non : RD g ι H .non .non
  | bl (b : Bool) : RD g ι H (.bl b) (.bl b)
  | int (i : Int) : RD g ι H (.int i) (.int i)
  | str (x : Str) : RD g ι H (.str x) (.str x)
  | ty (n : String) : RD g ι H (.ty n) (.ty n)
  | gl (x : Str) : RD g ι H (.gl x) (.ref (g.ga x))
  | tup {xs : List D} {a : Addr} {vs : List V} : SqT g.K H a vs → RDs g ι H xs vs → RD g ι H (.tup xs) (.ref a)
  | fro {xs : List D} {a : Addr} {vs : List V} : SqF g.K H a vs → RDs g ι H xs vs → RD g ι H (.fro xs) (.ref a)
  | loc {n : Nat} {a : Addr} : ι[n]? = some a → RD g ι H (.loc n) (.ref a)
inductive RDs (g : Glo) (ι : List Addr) (H : Hp) : List D → List V → Prop
  | nil : RDs g ι H [] []
  | cons {x : D} {v : V} {xs : List D} {vs : List V} : RD g ι H x v → RDs g ι H xs vs → RDs g ι H (x :: xs) (v :: vs)
end

section
variable {g : Glo} {ι : List Addr} {H : Hp}
theorem RDs.length : ∀ {xs : List D} {vs : List V}, RDs g ι H xs vs → xs.length = vs.length
  | _, _, .nil => rfl
  | _, _, .cons _ t => congrArg (· + 1) t.length
theorem RDs.get : ∀ {xs : List D} {vs : List V} {i : Nat} {d : D}, RDs g ι H xs vs → xs[i]? = some d → ∃ v, vs[i]? = some v ∧ RD g ι H d v
  | _, _, i, d, .nil, h => by simp at h
  | _, _, 0, d, .cons r _, h => by simp at h; subst h; exact ⟨_, by simp, r⟩
  | _, _, i + 1, d, .cons _ t, h => by
    obtain ⟨v, e, r⟩ := t.get (i := i) (d := d) (by simpa using h)
    exact ⟨v, by simpa using e, r⟩
theorem RDs.get' : ∀ {xs : List D} {vs : List V} {i : Nat} {v : V}, RDs g ι H xs vs → vs[i]? = some v → ∃ d, xs[i]? = some d ∧ RD g ι H d v
  | _, _, i, d, .nil, h => by simp at h
  | _, _, 0, d, .cons r _, h => by simp at h; subst h; exact ⟨_, by simp, r⟩
  | _, _, i + 1, d, .cons _ t, h => by
    obtain ⟨v, e, r⟩ := t.get' (i := i) (v := d) (by simpa using h)
    exact ⟨v, by simpa using e, r⟩
theorem RDs.append : ∀ {xs ys : List D} {vs ws : List V}, RDs g ι H xs vs → RDs g ι H ys ws → RDs g ι H (xs ++ ys) (vs ++ ws)
  | _, _, _, _, .nil, s => s
  | _, _, _, _, .cons r t, s => .cons r (t.append s)
theorem RDs.take : ∀ (n : Nat) {xs : List D} {vs : List V}, RDs g ι H xs vs → RDs g ι H (xs.take n) (vs.take n)
  | 0, _, _, _ => by simp; exact .nil
  | _ + 1, _, _, .nil => by simp; exact .nil
  | n + 1, _, _, .cons r t => by simpa using RDs.cons r (t.take n)
theorem RDs.drop : ∀ (n : Nat) {xs : List D} {vs : List V}, RDs g ι H xs vs → RDs g ι H (xs.drop n) (vs.drop n)
  | 0, _, _, h => by simpa using h
  | _ + 1, _, _, .nil => by simp; exact .nil
  | n + 1, _, _, .cons r t => by simpa using t.drop n
theorem RDs.set {d : D} {v : V} (r : RD g ι H d v) : ∀ (n : Nat) {xs : List D} {vs : List V}, RDs g ι H xs vs → RDs g ι H (xs.set n d) (vs.set n v)
  | _, _, _, .nil => by simp; exact .nil
  | 0, _, _, .cons _ t => by simpa using RDs.cons r t
  | n + 1, _, _, .cons q t => by simpa using RDs.cons q (t.set r n)
end

/-- the kinds of things that the store tracks -/
def stoKind : HO → Bool
  | .lst _ => true
  | .dK _ => true
  | .dT _ => true
  | .ins _ _ _ => true
  | _ => false
/-- the pairs of a dict; c: how its keys are told -/
def RKV (g : Glo) (ι : List Addr) (H : Hp) {κ : Type} (c : κ → List Ky) (kvs : List (List Ky × D)) (vk : List (κ × V)) : Prop := Paired (fun p q => p.1 = c q.1 ∧ RD g ι H p.2 q.2) kvs vk
/-- o stands at a -/
def RO (g : Glo) (ι : List Addr) (H : Hp) (a : Addr) : O → Prop
  | .lst xs => ∃ vs, H a = some (.lst vs) ∧ RDs g ι H xs vs
  | .dic false kvs => ∃ vk, H a = some (.dK vk) ∧ RKV g ι H (fun k => [k]) kvs vk
  | .dic true kvs => ∃ vk, H a = some (.dT vk) ∧ RKV g ι H id kvs vk
  | .ins _ _ => False
/-- no table of code objects -/
def nt : HO → Bool
  | .tbl _ => false
  | _ => true
/-- nothing stands there, but a table perhaps -/
def nn (H : Hp) (b : Addr) : Prop := ∀ o, H b = some o → nt o = false
theorem nn_none {H : Hp} {b : Addr} (h : H b = none) : nn H b := fun o e => by rw [h] at e; cases e
theorem nn_no {H : Hp} {b : Addr} {o : HO} {p : Prop} (h : nn H b) (e : H b = some o) (k : nt o = true) : p := by
  have z := h o e
  rw [k] at z; cases z
theorem nt_ne {o : HO} (h : nt o = true) : ∀ ps, o ≠ .tbl ps := fun ps e => by rw [e] at h; cases h
theorem nt_or (o : HO) : nt o = true ∨ ∃ ps, o = .tbl ps := by cases o <;> first | exact .inl rfl | exact .inr ⟨_, rfl⟩
/-- the store stands in the heap at the places ι -/
structure RS (g : Glo) (ι : List Addr) (s : Sto) (H : Hp) : Prop where
  nd : ι.Nodup
  len : ι.length = s.length
  at_ : ∀ (n : Nat) (o : O), s[n]? = some o → ∃ a, ι[n]? = some a ∧ RO g ι H a o
  tb : LamX.Tabs g.T H
/-- the heap has gone on: what is not in the store stands as it stood, new places of the store are new -/
structure Ext (ι : List Addr) (H : Hp) (ι' : List Addr) (H' : Hp) : Prop where
  pre : ι <+: ι'
  keep : ∀ b o, H b = some o → b ∉ ι → nt o = true → H' b = some o
  new : ∀ b, b ∈ ι' → b ∉ ι → nn H b

section
variable {g : Glo} {ι ι' ι'' : List Addr} {H H' H'' : Hp} {s : Sto}
theorem RO.kind {a : Addr} {o : O} (h : RO g ι H a o) : ∃ u, H a = some u ∧ stoKind u = true := by
  cases o with
  | lst xs => obtain ⟨vs, e, _⟩ := h; exact ⟨_, e, rfl⟩
  | dic t kvs => cases t <;> (obtain ⟨vk, e, _⟩ := h; exact ⟨_, e, rfl⟩)
  | ins _ _ => exact h.elim
theorem RDs.of (f : ∀ {d : D} {v : V}, RD g ι H d v → RD g ι' H' d v) : ∀ {ds : List D} {vs : List V}, RDs g ι H ds vs → RDs g ι' H' ds vs
  | _, _, .nil => .nil
  | _, _, .cons r t => .cons (f r) (RDs.of f t)
theorem RKV.of {κ : Type} {c : κ → List Ky} (f : ∀ {d : D} {v : V}, RD g ι H d v → RD g ι' H' d v) : ∀ {kvs : List (List Ky × D)} {vk : List (κ × V)}, RKV g ι H c kvs vk → RKV g ι' H' c kvs vk
  | _, _, .nil => .nil
  | _, _, .cons r t => .cons ⟨r.1, f r.2⟩ (RKV.of f t)
/-- what stands in the store stands further on -/
theorem RO.move {a : Addr} {o : O} (h : RO g ι H a o) (e : H' a = H a) (f : ∀ {d : D} {v : V}, RD g ι H d v → RD g ι' H' d v) : RO g ι' H' a o := by
  cases o with
  | lst xs => obtain ⟨vs, e1, r⟩ := h; exact ⟨vs, e.trans e1, RDs.of f r⟩
  | dic t kvs => cases t <;> (obtain ⟨vk, e1, r⟩ := h; exact ⟨vk, e.trans e1, RKV.of f r⟩)
  | ins _ _ => exact h.elim
theorem RS.kind (h : RS g ι s H) {a : Addr} (m : a ∈ ι) : ∃ u, H a = some u ∧ stoKind u = true := by
  obtain ⟨n, hn, e⟩ := List.mem_iff_getElem.mp m
  have hs : n < s.length := by rw [← h.len]; exact hn
  obtain ⟨b, e1, r⟩ := h.at_ n s[n] (by simp [hs])
  have e2 : b = a := by
    rw [List.getElem?_eq_getElem hn, e] at e1
    exact (Option.some.inj e1).symm
  subst e2
  exact r.kind
theorem RS.apart (h : RS g ι s H) {a : Addr} {u : HO} (e : H a = some u) (k : stoKind u = false) : a ∉ ι := fun m => by
  obtain ⟨w, e1, k1⟩ := h.kind m
  rw [e] at e1; cases e1
  rw [k] at k1; cases k1
theorem Ext.refl : Ext ι H ι H := ⟨List.prefix_refl _, fun _ _ h _ _ => h, fun _ h n => absurd h n⟩
theorem Ext.trans (a : Ext ι H ι' H') (b : Ext ι' H' ι'' H'') : Ext ι H ι'' H'' where
  pre := a.pre.trans b.pre
  keep := fun c o e n h => b.keep c o (a.keep c o e n h) (fun m => nn_no (a.new c m n) e h) h
  new := fun c m n => by
    by_cases hc : c ∈ ι'
    · exact a.new c hc n
    · intro o e
      cases h : nt o with
      | false => rfl
      | true => exact nn_no (b.new c m hc) (a.keep c o e n h) h
theorem Ext.get (a : Ext ι H ι' H') {n : Nat} {b : Addr} (h : ι[n]? = some b) : ι'[n]? = some b := by
  obtain ⟨t, rfl⟩ := a.pre
  rw [List.getElem?_append_left (List.getElem?_eq_some_iff.mp h).1]
  exact h
theorem Rd.ext {a : Addr} {u : HO} (x : Ext ι H ι' H') (h : Rd H a u) (n : a ∉ ι) (hu : nt u = true) : Rd H' a u := by
  rcases h with h | ⟨o, h⟩
  · exact .inl (x.keep _ _ h n hu)
  · exact .inr ⟨o, x.keep _ _ h n rfl⟩
theorem SqT.ext {a : Addr} {vs : List V} (rs : RS g ι s H) (x : Ext ι H ι' H') (h : SqT g.K H a vs) : SqT g.K H' a vs := by
  rcases h with h | h
  · refine .inl (Rd.ext x h ?_ rfl)
    rcases h with h | ⟨o, h⟩
    · exact rs.apart h rfl
    · exact rs.apart h rfl
  · exact .inr h
mutual
/-- data lean on tuples and on places alone -/
theorem RD.imp (hn : ∀ (n : Nat) (a : Addr), ι[n]? = some a → ι'[n]? = some a) (ht : ∀ a vs, Rd H a (.tup vs) → Rd H' a (.tup vs)) (hf : ∀ a o vs, H a = some (.frz o (.lst vs)) → H' a = some (.frz o (.lst vs))) : ∀ {d : D} {v : V}, RD g ι H d v → RD g ι' H' d v
  | _, _, .non => .non
  | _, _, .bl b => .bl b
  | _, _, .int i => .int i
  | _, _, .str z => .str z
  | _, _, .ty n => .ty n
  | _, _, .gl z => .gl z
  | _, _, .tup h r => .tup (h.elim (fun q => .inl (ht _ _ q)) .inr) (RDs.imp hn ht hf r)
  | _, _, .fro h r => .fro (h.elim (fun ⟨o, q⟩ => .inl ⟨o, hf _ _ _ q⟩) .inr) (RDs.imp hn ht hf r)
  | _, _, .loc h => .loc (hn _ _ h)
theorem RDs.imp (hn : ∀ (n : Nat) (a : Addr), ι[n]? = some a → ι'[n]? = some a) (ht : ∀ a vs, Rd H a (.tup vs) → Rd H' a (.tup vs)) (hf : ∀ a o vs, H a = some (.frz o (.lst vs)) → H' a = some (.frz o (.lst vs))) : ∀ {d : List D} {v : List V}, RDs g ι H d v → RDs g ι' H' d v
  | _, _, .nil => .nil
  | _, _, .cons r t => .cons (RD.imp hn ht hf r) (RDs.imp hn ht hf t)
end
mutual
theorem RD.ext (rs : RS g ι s H) (x : Ext ι H ι' H') : ∀ {d : D} {v : V}, RD g ι H d v → RD g ι' H' d v
  | _, _, .non => .non
  | _, _, .bl b => .bl b
  | _, _, .int i => .int i
  | _, _, .str z => .str z
  | _, _, .ty n => .ty n
  | _, _, .gl z => .gl z
  | _, _, .tup h r => .tup (SqT.ext rs x h) (RDs.ext rs x r)
  | _, _, .fro h r => .fro (h.elim (fun ⟨o, q⟩ => .inl ⟨o, x.keep _ _ q (rs.apart q rfl) rfl⟩) .inr) (RDs.ext rs x r)
  | _, _, .loc h => .loc (x.get h)
theorem RDs.ext (rs : RS g ι s H) (x : Ext ι H ι' H') : ∀ {d : List D} {v : List V}, RDs g ι H d v → RDs g ι' H' d v
  | _, _, .nil => .nil
  | _, _, .cons r t => .cons (RD.ext rs x r) (RDs.ext rs x t)
end
end

/-- a value: data, or a list that stands outside of the store -/
inductive RT (g : Glo) (ι : List Addr) (H : Hp) : T → V → Prop
  | v {d : D} {v : V} : RD g ι H d v → RT g ι H (.v d) v
  | l {xs : List D} {a : Addr} {vs : List V} : H a = some (.lst vs) → a ∉ ι → RDs g ι H xs vs → RT g ι H (.l xs) (.ref a)
/-- a list outside of the store is new since H0 -/
def Fresh (H0 : Hp) (t : T) (v : V) : Prop :=
  match t with
  | .v _ => True
  | .l _ => ∃ a, v = .ref a ∧ nn H0 a
/-- the frame's names -/
structure RE (g : Glo) (ι : List Addr) (H : Hp) (ρ : Env) (σ : L2.St) : Prop where
  len : ρ.length = σ.length
  at_ : ∀ (i : Nat) (d : D), ρ[i]? = some (some d) → ∃ v, σ[i]? = some (some v) ∧ RD g ι H d v
/-- an exception -/
def RX (g : Glo) (ι : List Addr) (H : Hp) (x : Xc) (c : Value) (d : Option Addr) : Prop :=
  c = .ref (g.ga x.cls) ∧ ∃ dx v, d = some dx ∧ H dx = some (.xd [("at", v)]) ∧ RD g ι H x.val v

section
variable {g : Glo} {ι ι' ι'' : List Addr} {H H' H'' : Hp} {s : Sto} {ρ : Env} {σ : L2.St}
theorem Ext.out (x : Ext ι H ι' H') {a : Addr} {o : HO} (e : H a = some o) (n : a ∉ ι) (h : nt o = true := by rfl) : a ∉ ι' := fun m => nn_no (x.new a m n) e h
theorem RT.ext (rs : RS g ι s H) (x : Ext ι H ι' H') {t : T} {v : V} (r : RT g ι H t v) : RT g ι' H' t v := by
  cases r with
  | v r => exact .v (r.ext rs x)
  | l e n r => exact .l (x.keep _ _ e n rfl) (x.out e n) (r.ext rs x)
theorem RE.ext (rs : RS g ι s H) (x : Ext ι H ι' H') (r : RE g ι H ρ σ) : RE g ι' H' ρ σ :=
  ⟨r.len, fun i d h => let ⟨v, e, q⟩ := r.at_ i d h; ⟨v, e, q.ext rs x⟩⟩
theorem RE.set {d : D} {v : V} (r : RE g ι H ρ σ) (i : Nat) (q : RD g ι H d v) : RE g ι H (ρ.set i (some d)) (σ.set i (some v)) := by
  refine ⟨by simp [r.len], fun j e h => ?_⟩
  by_cases hj : i = j
  · subst hj
    have hi : i < ρ.length := by
      by_cases hi : i < ρ.length
      · exact hi
      · rw [List.getElem?_eq_none (by simpa using hi)] at h; cases h
    rw [List.getElem?_set_self hi] at h
    cases h
    exact ⟨v, by rw [List.getElem?_set_self (r.len ▸ hi)], q⟩
  · rw [List.getElem?_set_ne hj] at h ⊢
    exact r.at_ j e h
theorem RE.forget {i : Nat} (r : RE g ι H ρ σ) : RE g ι H (ρ.set i none) (σ.set i none) := by
  refine ⟨by simp [r.len], fun j e h => ?_⟩
  by_cases hj : i = j
  · subst hj
    by_cases hi : i < ρ.length
    · rw [List.getElem?_set_self hi] at h; cases h
    · rw [List.getElem?_eq_none (by simpa using hi)] at h; cases h
  · rw [List.getElem?_set_ne hj] at h ⊢
    exact r.at_ j e h
theorem RE.wipe (r : RE g ι H ρ σ) : ∀ vs : List Nat, RE g ι H (wipeE ρ vs) (L2.wipe σ vs)
  | [] => r
  | _ :: vs => (r.wipe vs).forget
/-- a list outside goes into the store -/
theorem keep_ok {ι0 : List Addr} {H0 : Hp} {t : T} {v : V} (rs : RS g ι s H) (x : Ext ι0 H0 ι H) (r : RT g ι H t v) (f : Fresh H0 t v) :
    ∃ ι', RS g ι' (t.keep s).2 H ∧ Ext ι0 H0 ι' H ∧ RD g ι' H (t.keep s).1 v := by
  cases r with
  | v r => exact ⟨ι, rs, x, r⟩
  | @l xs a vs e n r =>
    obtain ⟨a', ea, f⟩ := f
    cases ea
    have more : ∀ (n : Nat) (b : Addr), ι[n]? = some b → (ι ++ [a])[n]? = some b := fun n b h => by
      rw [List.getElem?_append_left (List.getElem?_eq_some_iff.mp h).1]
      exact h
    have subs : ∀ {ds vs}, RDs g ι H ds vs → RDs g (ι ++ [a]) H ds vs := fun q => q.imp more (fun _ _ h => h) fun _ _ _ h => h
    refine ⟨ι ++ [a], ⟨?_, ?_, ?_, rs.tb⟩, ⟨x.pre.trans (List.prefix_append _ _), x.keep, ?_⟩, ?_⟩
    · exact List.nodup_append.mpr ⟨rs.nd, by simp, fun b hb c hc => by
        have ec : c = a := by simpa using hc
        subst ec
        rintro rfl
        exact n hb⟩
    · simp [T.keep, rs.len]
    · intro k o h
      have h' : (s ++ [O.lst xs])[k]? = some o := h
      by_cases hk : k < s.length
      · rw [List.getElem?_append_left hk] at h'
        obtain ⟨b, e1, r1⟩ := rs.at_ k o h'
        refine ⟨b, by rw [List.getElem?_append_left (List.getElem?_eq_some_iff.mp e1).1]; exact e1, ?_⟩
        exact r1.move rfl fun q => q.imp more (fun _ _ h => h) fun _ _ _ h => h
      · rw [List.getElem?_append_right (by omega)] at h'
        have hk0 : k - s.length = 0 := by
          cases q : k - s.length with
          | zero => rfl
          | succ m => rw [q] at h'; simp at h'
        rw [hk0] at h'
        have eo : O.lst xs = o := by simpa using h'
        subst eo
        have ek : k = ι.length := by rw [rs.len]; omega
        subst ek
        exact ⟨a, by simp, vs, e, subs r⟩
    · intro b hb nb
      rcases List.mem_append.mp hb with hb | hb
      · exact x.new b hb nb
      · have eb : b = a := by simpa using hb
        subst eb
        exact f
    · exact .loc (by simp [T.keep, ← rs.len])
end
end Fy
end
section
set_option Elab.async false
set_option linter.all false
set_option maxRecDepth 100000
/-! Fy3: what it means that the evaluator tells what the text does; its glue. -/
namespace Fy
open PySem PySem.Spec PyProof.Rows L2

/-- how a result lies in the heap; H0: the heap ahead -/
structure Rl (α β : Type) where
  r : Hp → List Addr → Hp → α → β → Prop
  sh : ∀ {ι ι1 ι' : List Addr} {H H1 H' : Hp} {a : α} {b : β}, Ext ι H ι1 H1 → Ext ι1 H1 ι' H' → r H1 ι' H' a b → r H ι' H' a b

/-- a run ends so -/
def Wp {α β : Type} (g : Glo) (W : WX) (RA : Rl α β) (σ : L2.St) (ι : List Addr) (H : Hp) (m : R α) (Q : β → Hp → Prop) : Prop :=
  match m with
  | .ok a s' => ∀ ι' H' b, Ext ι H ι' H' → RS g ι' s' H' → RA.r H ι' H' a b → Q b H'
  | .ex x s' => ∀ ι' H' c d, Ext ι H ι' H' → RS g ι' s' H' → RX g ι' H' x c d → W c d σ H'
  | .bad => False

section
variable {α β γ δ : Type} {g : Glo} {W : WX} {RA : Rl α β} {RB : Rl γ δ} {σ : L2.St} {ι ι1 : List Addr} {H H1 : Hp} {Q : δ → Hp → Prop}
theorem Wp.shift {m : R γ} (h : Wp g W RB σ ι H m Q) (x : Ext ι H ι1 H1) : Wp g W RB σ ι1 H1 m Q := by
  cases m with
  | ok a s' => exact fun ι' H' b x' rs r => h ι' H' b (x.trans x') rs (RB.sh x x' r)
  | ex e s' => exact fun ι' H' c d x' rs r => h ι' H' c d (x.trans x') rs r
  | bad => exact h
theorem Wp.step {m : R α} {k : α → Sto → R γ} {N : β → Hp → Prop} (h : Wp g W RB σ ι H (m.bind k) Q)
    (hk : ∀ a s1 ι1 H1 b, Ext ι H ι1 H1 → RS g ι1 s1 H1 → RA.r H ι1 H1 a b → Wp g W RB σ ι1 H1 (k a s1) Q → N b H1) : Wp g W RA σ ι H m N := by
  cases m with
  | ok a s1 => exact fun ι1 H1 b x rs r => hk a s1 ι1 H1 b x rs r (Wp.shift (m := k a s1) h x)
  | ex e s' => exact h
  | bad => exact h
/-- .. what follows told from the start, too -/
theorem Wp.step0 {m : R α} {k : α → Sto → R γ} {N : β → Hp → Prop} (h : Wp g W RB σ ι H (m.bind k) Q)
    (hk : ∀ a s1 ι1 H1 b, m = .ok a s1 → Ext ι H ι1 H1 → RS g ι1 s1 H1 → RA.r H ι1 H1 a b → Wp g W RB σ ι H (k a s1) Q → N b H1) : Wp g W RA σ ι H m N := by
  cases m with
  | ok a s1 => exact fun ι1 H1 b x rs r => hk a s1 ι1 H1 b rfl x rs r h
  | ex e s' => exact h
  | bad => exact h
theorem Wp.ok {a : γ} {s : Sto} {b : δ} (h : Wp g W RB σ ι H (.ok a s) Q) (rs : RS g ι s H) (r : RB.r H ι H a b) : Q b H := h ι H b Ext.refl rs r
/-- an option, in the same store -/
theorem Wp.opt {o : Option γ} {s : Sto} (h : Wp g W RB σ ι H (ofO o s) Q) : ∃ a, o = some a ∧ ∀ ι' H' b, Ext ι H ι' H' → RS g ι' s H' → RB.r H ι' H' a b → Q b H' := by
  cases o with
  | some a => exact ⟨a, rfl, h⟩
  | none => exact h.elim
end

def rlT (g : Glo) : Rl T V where
  r := fun H0 ι H t v => RT g ι H t v ∧ Fresh H0 t v
  sh := fun {ι ι1 ι' H H1 H' a b} x x' ⟨r, f⟩ => ⟨r, by
    cases r with
    | v _ => trivial
    | @l xs a vs e n _ =>
      obtain ⟨a', ea, f⟩ := f
      cases ea
      refine ⟨a, rfl, fun o q => ?_⟩
      cases h : nt o with
      | false => rfl
      | true =>
        by_cases m : a ∈ ι
        · exact absurd (x'.pre.mem (x.pre.mem m)) n
        · exact nn_no f (x.keep a o q m h) h⟩
/-- kept data -/
def rlD (g : Glo) : Rl D V := ⟨fun _ ι H d v => RD g ι H d v, fun _ _ h => h⟩
def rlDs (g : Glo) : Rl (List D) (List V) := ⟨fun _ ι H d v => RDs g ι H d v, fun _ _ h => h⟩
def rlB : Rl Bool Bool := ⟨fun _ _ _ a b => a = b, fun _ _ h => h⟩
/-- arguments of a built-in -/
inductive RTs (g : Glo) (ι : List Addr) (H : Hp) : List T → List V → Prop
  | nil : RTs g ι H [] []
  | cons {t : T} {v : V} {ts : List T} {vs : List V} : RT g ι H t v → RTs g ι H ts vs → RTs g ι H (t :: ts) (v :: vs)
def rlTs (g : Glo) : Rl (List T) (List V) := ⟨fun _ ι H d v => RTs g ι H d v, fun _ _ h => h⟩

/-- the readings that the evaluator gives -/
def tE (g : Glo) (W : WX) (f : Env → Sto → R T) : TE := fun σ H Q => ∃ ι ρ s, RE g ι H ρ σ ∧ RS g ι s H ∧ Wp g W (rlT g) σ ι H (f ρ s) Q
def tT (g : Glo) (W : WX) (f : Env → Sto → R Bool) : TT := fun σ H Q => ∃ ι ρ s, RE g ι H ρ σ ∧ RS g ι s H ∧ Wp g W rlB σ ι H (f ρ s) Q
def tA (g : Glo) (W : WX) (f : Env → Sto → R (List D)) : TA := fun σ H Q => ∃ ι ρ s, RE g ι H ρ σ ∧ RS g ι s H ∧ Wp g W (rlDs g) σ ι H (f ρ s) Q
def tAT (g : Glo) (W : WX) (f : Env → Sto → R (List T)) : TA := fun σ H Q => ∃ ι ρ s, RE g ι H ρ σ ∧ RS g ι s H ∧ Wp g W (rlTs g) σ ι H (f ρ s) Q

theorem PE.imp {X : Cx} {e : Expr} {t t' : TE} (h : PE X e t) (f : ∀ σ H Q, t' σ H Q → t σ H Q) : PE X e t' := ⟨fun pins s σ H Q I w => h.run pins s σ H Q I (f _ _ _ w)⟩
theorem PT.imp {X : Cx} {e : Expr} {t t' : TT} (h : PT X e t) (f : ∀ σ H Q, t' σ H Q → t σ H Q) : PT X e t' := ⟨fun pins s σ H Q I w => h.run pins s σ H Q I (f _ _ _ w)⟩
theorem PA.imp {X : Cx} {e : List Expr} {t t' : TA} (h : PA X e t) (f : ∀ σ H Q, t' σ H Q → t σ H Q) : PA X e t' := ⟨fun pos pins s σ H Q I w => h.run pos pins s σ H Q I (f _ _ _ w)⟩
theorem PS.imp {X : Cx} {e : Stmt} {t t' : TS} (h : PS X e t) (f : ∀ D σ H, t' D σ H → t D σ H) : PS X e t' := ⟨fun pins s σ H D I w => h.run pins s σ H D I (f _ _ _ w)⟩
theorem PSs.imp {X : Cx} {e : List Stmt} {t t' : TS} (h : PSs X e t) (f : ∀ D σ H, t' D σ H → t D σ H) : PSs X e t' := ⟨fun pins s σ H D I w => h.run pins s σ H D I (f _ _ _ w)⟩
theorem PI.imp {X : Cx} {tg e : Expr} {t t' : TI} (h : PI X tg e t) (f : ∀ σ H R, t' σ H R → t σ H R) : PI X tg e t' := ⟨fun pins s σ H R I w => h.run pins s σ H R I (f _ _ _ w)⟩

section
variable {g : Glo} {W : WX} {X : Cx} {σ : L2.St} {ι : List Addr} {H : Hp} {s : Sto}

/-- ends in the state itself -/
theorem rlT.v {d : D} {v : V} {H0 : Hp} (r : RD g ι H d v) : (rlT g).r H0 ι H (.v d) v := ⟨.v r, trivial⟩

/-! ### a sequence met in the heap -/
theorem seq_ok {t : T} {v : V} {xs : List D} (rs : RS g ι s H) (r : RT g ι H t v) (e : seqOf t s = some xs) : ∃ a vs, v = .ref a ∧ (SqL g.K H a vs ∨ SqT g.K H a vs) ∧ RDs g ι H xs vs ∧
    ((∃ ys, t = .v (.tup ys)) → SqT g.K H a vs) ∧ ((∀ ys, t ≠ .v (.tup ys)) → SqL g.K H a vs) := by
  cases r with
  | @l ys a vs h n r =>
    have e' : some ys = some xs := e
    cases e'
    exact ⟨a, vs, rfl, .inl (.inl (.inl h)), r, fun ⟨_, q⟩ => (nomatch q), fun _ => .inl (.inl h)⟩
  | @v d v r =>
    cases r with
    | @tup ys a vs h r =>
      have e' : some ys = some xs := e
      cases e'
      exact ⟨a, vs, rfl, .inr h, r, fun _ => h, fun q => absurd rfl (q _)⟩
    | @fro ys a vs h r =>
      have e' : some ys = some xs := e
      cases e'
      exact ⟨a, vs, rfl, .inl h.list, r, fun ⟨_, q⟩ => (nomatch q), fun _ => h.list⟩
    | @loc n a h =>
      have e' : lstAt n s = some xs := e
      unfold lstAt at e'
      cases q : s[n]? with
      | none => rw [q] at e'; simp at e'
      | some o =>
        rw [q] at e'
        obtain ⟨b, e1, r1⟩ := rs.at_ n o q
        have eb : b = a := by rw [h] at e1; exact (Option.some.inj e1).symm
        subst eb
        cases o with
        | lst ys =>
          obtain ⟨vs, e2, r2⟩ := r1
          have e3 : some ys = some xs := e'
          cases e3
          exact ⟨b, vs, rfl, .inl (.inl (.inl e2)), r2, fun ⟨_, q⟩ => (nomatch q), fun _ => .inl (.inl e2)⟩
        | dic _ _ => cases e'
        | ins _ _ => exact r1.elim
    | _ => simp [seqOf, lstOf] at e
theorem lst_ok {t : T} {v : V} {xs : List D} (rs : RS g ι s H) (r : RT g ι H t v) (e : lstOf t s = some xs) : ∃ a vs, v = .ref a ∧ SqL g.K H a vs ∧ RDs g ι H xs vs := by
  have e' : seqOf t s = some xs := by
    cases t with
    | l ys => exact e
    | v d => cases d with
      | tup ys => simp [lstOf] at e
      | _ => exact e
  obtain ⟨a, vs, ev, _, r2, _, hl⟩ := seq_ok rs r e'
  refine ⟨a, vs, ev, hl ?_, r2⟩
  rintro ys rfl
  simp [lstOf] at e

/-! ### truth -/
theorem tru_V {t : T} {v : V} {b : Bool} (rs : RS g ι s H) (r : RT g ι H t v) (e : truth t s = some b) : TruV g.K v H b := by
  have hs : sizeLine = LIM := sizeLine_eq
  have seqc : ∀ xs, seqOf t s = some xs → b = !xs.isEmpty → (∃ a, v = .ref a) → TruV g.K v H b := fun xs e1 e2 _ => by
    obtain ⟨a, vs, rfl, hq, r2, _⟩ := seq_ok rs r e1
    have el : xs.isEmpty = vs.isEmpty := by
      have := r2.length
      cases xs <;> cases vs <;> simp_all
    show (∃ xs, SqL g.K H a xs ∧ b = !xs.isEmpty) ∨ (∃ xs, SqT g.K H a xs ∧ b = !xs.isEmpty) ∨ ∃ kvs, H a = some (.dK kvs) ∧ b = !kvs.isEmpty
    rcases hq with hq | hq
    · exact .inl ⟨vs, hq, by rw [e2, el]⟩
    · exact .inr (.inl ⟨vs, hq, by rw [e2, el]⟩)
  cases r with
  | @l xs a vs h n r' => exact seqc xs rfl (by simpa [truth, seqOf, lstOf] using e.symm) ⟨a, rfl⟩
  | @v d v r' =>
    cases r' with
    | non => simp [truth] at e; subst e; rfl
    | bl b' => simp [truth] at e; subst e; rfl
    | int i => simp [truth] at e; subst e; rfl
    | str x =>
      have e' : (if x.length ≤ LIM then some ((x.length : Int) != 0) else none) = some b := e
      split at e'
      · rename_i hx
        exact ⟨by rw [hs]; exact hx, (Option.some.inj e').symm⟩
      · cases e'
    | ty n => simp [truth, seqOf, lstOf] at e
    | gl x => simp [truth, seqOf, lstOf] at e
    | @tup xs a vs h r2 => exact seqc xs rfl (by simpa [truth, seqOf] using e.symm) ⟨a, rfl⟩
    | @fro xs a vs h r2 => exact seqc xs rfl (by simpa [truth, seqOf, lstOf] using e.symm) ⟨a, rfl⟩
    | @loc n a h =>
      cases q : seqOf (.v (.loc n)) s with
      | none => simp [truth, q] at e
      | some xs => exact seqc xs q (by simpa [truth, q] using e.symm) ⟨a, rfl⟩
end
end Fy
end
section
set_option Elab.async false
set_option linter.all false
set_option maxRecDepth 100000
set_option maxHeartbeats 1000000
/-! Fy4: operators, comparisons, items, slices, built-ins, by values. -/
namespace Fy
open PySem PySem.Spec PyProof.Rows L2

section
variable {g : Glo} {ι : List Addr} {H : Hp} {s : Sto}
theorem RS.free (rs : RS g ι s H) {p : Addr} (h : H p = none) : p ∉ ι := fun m => by
  obtain ⟨u, e, _⟩ := rs.kind m
  rw [h] at e; cases e
theorem Ext.upd {p : Addr} {o : HO} (h : H p = none) : Ext ι H ι (upd H p o) :=
  ⟨List.prefix_refl _, fun b u e _ _ => by rw [upd_ne (ne_of_none e h)]; exact e, fun _ m n => absurd m n⟩
theorem RS.ext {H' : Hp} (rs : RS g ι s H) (x : Ext ι H ι H') (k : ∀ a, a ∈ ι → H' a = H a) (t : LamX.Tabs g.T H') : RS g ι s H' := by
  refine ⟨rs.nd, rs.len, fun n o e => ?_, t⟩
  obtain ⟨a, ea, r⟩ := rs.at_ n o e
  have ka := k a (List.mem_of_getElem? ea)
  refine ⟨a, ea, ?_⟩
  exact r.move ka fun q => q.ext rs x
theorem RS.upd {p : Addr} {o : HO} (rs : RS g ι s H) (h : H p = none) : RS g ι s (upd H p o) :=
  rs.ext (Ext.upd h) (fun a m => upd_ne fun e => rs.free h (e ▸ m)) (rs.tb.ext fun b u e => by rw [upd_ne (ne_of_none e h)]; exact e)
/-- a list written anew: the tables stand -/
theorem tabs_set {T : List (Addr × Str)} {a : Addr} {vs ws : List V} (h : H a = some (.lst vs)) (t : LamX.Tabs T H) : LamX.Tabs T (L2.upd H a (.lst ws)) := fun p hp => by
  obtain ⟨ps, h1, h2, h3⟩ := t p hp
  have ne : ∀ {b : Addr} {u : HO}, H b = some u → (∀ xs, u ≠ .lst xs) → b ≠ a := fun {b u} e k q => by
    subst q
    rw [h] at e
    exact k vs (Option.some.inj e).symm
  refine ⟨ps, by rw [upd_ne (ne h1 fun _ z => by cases z)]; exact h1, h2, fun pos cv hc => ?_⟩
  obtain ⟨c, e1, e2⟩ := h3 pos cv hc
  exact ⟨c, e1, by rw [upd_ne (ne e2 fun _ z => by unfold LamX.CodeO at z; cases z)]; exact e2⟩
/-- a new list -/
theorem newL {xs : List D} {vs : List V} {p : Addr} (rs : RS g ι s H) (h : H p = none) (r : RDs g ι H xs vs) : (rlT g).r H ι (upd H p (.lst vs)) (.l xs) (.ref p) :=
  ⟨.l upd_same (rs.free h) (r.ext rs (Ext.upd h)), p, rfl, nn_none h⟩
theorem newT {xs : List D} {vs : List V} {p : Addr} {H0 : Hp} (rs : RS g ι s H) (h : H p = none) (r : RDs g ι H xs vs) : (rlT g).r H0 ι (upd H p (.tup vs)) (.v (.tup xs)) (.ref p) :=
  ⟨.v (.tup (.inl (.inl upd_same)) (r.ext rs (Ext.upd h))), trivial⟩

/-- what an operation on values asks: the evaluator's answer and what follows from it -/
def Ans (g : Glo) (ι : List Addr) (s : Sto) (H : Hp) (o : Option T) (Q : VK) : Prop :=
  ∃ t, o = some t ∧ ∀ ι' H' v, Ext ι H ι' H' → RS g ι' s H' → (rlT g).r H ι' H' t v → Q v H'
theorem Ans.same {t : T} {v : V} {Q : VK} {o : Option T} (h : Ans g ι s H o Q) (e : o = some t) (rs : RS g ι s H) (r : (rlT g).r H ι H t v) : Q v H := by
  obtain ⟨t', e', q⟩ := h
  rw [e] at e'; cases e'
  exact q ι H v Ext.refl rs r
theorem Ans.new {t : T} {v : V} {Q : VK} {o : Option T} {p : Addr} {u : HO} (h : Ans g ι s H o Q) (e : o = some t) (rs : RS g ι s H) (hp : H p = none) (r : (rlT g).r H ι (L2.upd H p u) t v) : Q v (L2.upd H p u) := by
  obtain ⟨t', e', q⟩ := h
  rw [e] at e'; cases e'
  exact q ι _ v (Ext.upd hp) (rs.upd hp) r
def rO2 (g : Glo) (f : T → T → Sto → Option T) : R2 := fun x y H Q => ∃ ι s tx ty, RS g ι s H ∧ RT g ι H tx x ∧ RT g ι H ty y ∧ Ans g ι s H (f tx ty s) Q

theorem RD.int_ {i : Int} {v : V} (r : RD g ι H (.int i) v) : v = .int i := by cases r; rfl
theorem RT.int_ {i : Int} {v : V} (r : RT g ι H (.v (.int i)) v) : v = .int i := by cases r with | v r => exact r.int_
theorem RT.bl_ {i : Bool} {v : V} (r : RT g ι H (.v (.bl i)) v) : v = .bl i := by cases r with | v r => cases r; rfl
theorem RT.str_ {i : Str} {v : V} (r : RT g ι H (.v (.str i)) v) : v = .str i := by cases r with | v r => cases r; rfl
theorem RT.non_ {v : V} (r : RT g ι H (.v .non) v) : v = .non := by cases r with | v r => cases r; rfl
theorem RT.ty_ {n : String} {v : V} (r : RT g ι H (.v (.ty n)) v) : v = .ty n := by cases r with | v r => cases r; rfl
theorem RT.tup_ {xs : List D} {v : V} (r : RT g ι H (.v (.tup xs)) v) : ∃ a vs, v = .ref a ∧ SqT g.K H a vs ∧ RDs g ι H xs vs := by
  cases r with | v r => cases r with | tup h r => exact ⟨_, _, rfl, h, r⟩
theorem mlst_ok {t : T} {v : V} {xs : List D} (rs : RS g ι s H) (r : RT g ι H t v) (e : mlstOf t s = some xs) : ∃ a vs, v = .ref a ∧ H a = some (.lst vs) ∧ RDs g ι H xs vs := by
  cases r with
  | @l ys a vs h n r =>
    have e' : some ys = some xs := e
    cases e'
    exact ⟨a, vs, rfl, h, r⟩
  | @v d v r =>
    cases r with
    | @loc n a h =>
      cases q : s[n]? with
      | none => simp [mlstOf, q] at e
      | some o =>
        obtain ⟨b, e1, r1⟩ := rs.at_ n o q
        have eb : b = a := by rw [h] at e1; exact (Option.some.inj e1).symm
        subst eb
        cases o with
        | lst ys =>
          obtain ⟨vs, e2, r2⟩ := r1
          have e3 : ys = xs := by simpa [mlstOf, q] using e
          subst e3
          exact ⟨b, vs, rfl, e2, r2⟩
        | dic _ _ => simp [mlstOf, q] at e
        | ins _ _ => exact r1.elim
    | _ => simp [mlstOf] at e

/-! ### a tuple, so many times -/
def rRepTW (K : PySem.W.Frag) : R2 := fun x y H Q => ∃ l k xs, x = .ref l ∧ y = .int k ∧ SqT K H l xs ∧ xs ≠ [] ∧ 2 ≤ k ∧ k ≤ 10000 ∧ xs.length ≤ 1000 ∧ ∀ p, H p = none → Q (.ref p) (L2.upd H p (.tup (List.replicate k.toNat xs).flatten))
theorem rep_len {α : Type} (n : Nat) (xs : List α) : (List.replicate n xs).flatten.length = n * xs.length := by
  induction n with
  | zero => simp
  | succ n ih => rw [List.replicate_succ, List.flatten_cons, List.length_append, ih, Nat.succ_mul]; omega
theorem op_repTW {X : Cx} : OpR X (binaryOp .Mult) (rRepTW X.K) := by
  intro pins s σ H x y v u Q I rx ry ⟨l, k, xs, ex, ey, hT, hne, h1, h2, hz, q⟩
  subst ex; subst ey
  cases rx
  obtain ⟨tk, rfl⟩ := ry
  obtain ⟨its, r, ⟨⟨cls, dct, dt, slo⟩, ho, hc, m, hd⟩, hs⟩ := I.tuple hT
  simp only at hc hd
  subst hc hd
  have hle : its.length = xs.length := r.length.symm
  have hpos : 0 < xs.length := List.length_pos_iff.mpr hne
  have hi : its.toArray.isEmpty = false := by
    cases its with
    | nil => rw [← hle] at hpos; exact absurd hpos (by decide)
    | cons a b => rfl
  have hsz : its.toArray.size = xs.length := by rw [List.size_toArray, hle]
  have hb : ((xs.length : Nat) : Int) * k ≤ 10000000 := by
    have := Int.mul_le_mul (show ((xs.length : Nat) : Int) ≤ 1000 by omega) h2 (by omega) (by omega)
    omega
  have hn : k.toNat * xs.length ≤ 10000000 := by
    have := Nat.mul_le_mul (show k.toNat ≤ 10000 by omega) hz
    omega
  have line : sizeLine = 16777216 := sizeLine_eq
  have hfl : (List.replicate k.toNat its).flatten.length ≤ sizeLine := by rw [rep_len, hle, line]; omega
  have g1 : (decide (k < -(2 ^ 63)) || decide (k ≥ 2 ^ 63)) = false := by
    rw [decide_eq_false (show ¬ k < -(2 ^ 63) by omega), decide_eq_false (show ¬ k ≥ 2 ^ 63 by omega)]; rfl
  have g2 : (its.toArray.isEmpty || k == 1) = false := by rw [hi, Bool.false_or]; exact beq_eq_false_iff_ne.mpr (by omega)
  have g3 : (decide (k ≤ 0) || its.toArray.isEmpty) = false := by rw [hi, Bool.or_false]; exact decide_eq_false (by omega)
  have g5 : Builtin.Tuple.tupleTooMany (((its.toArray.size : Nat) : Int) * k) = false := by
    unfold Builtin.Tuple.tupleTooMany
    rw [hsz]
    exact decide_eq_false (by rw [line]; omega)
  have big : (List.foldl (fun x1 x2 => x1 ++ x2) #[] (List.replicate k.toNat its.toArray)).size ≤ sizeLine := by rw [size_rep]; simpa using hfl
  have mulIs := tuple_mulW l its.toArray m dct slo k tk g1 g2 g3 (by rw [hsz]; omega) g5 big
  refine wpAny_binaryOp_repeat_ref (T := "tuple") (U := "int") (by decide) ⟨_, ho, rfl⟩ (fun s' => typeIs_int s' k tk) noFill_tuple_mul F.fills_int_mul F.slot_int_rmul repeat_tuple F.slot_int_index.lookup ?_
  refine call_meets F.slot_int_rmul (typeIs_int s k tk) F.entry_int_rmul (F.args_int_rmul_2 _ _) (int_rmul_tuple k tk l its.toArray m dct slo) ⟨ho, rfl, ⟨_, ho, rfl⟩,
    call_meets F.slot_tuple_mul ⟨_, ho, rfl⟩ F.entry_tuple_mul (F.args_tuple_mul_2 _ _) mulIs ⟨ho, ?_⟩⟩
  rw [size_rep]
  have new : L2.ObjOk X.prog X.w (L2.upd H s.heap.objs.size (.tup (List.replicate k.toNat xs).flatten)) (s.heap.push { cls := Value.type "tuple", data := Data.seq (List.replicate k.toNat its).flatten.toArray }) s.heap.objs.size (.tup (List.replicate k.toNat xs).flatten) :=
    ⟨by rw [rep_len, line]; omega, _, r.rep k.toNat, IsTup.new _ _⟩
  exact ⟨.ref s.heap.objs.size, _, I.laid (t' := s.toks) (fun b ob e => Heap.get?_push_of_some _ e) (Nat.le_refl _) new, rfl, q _ (I.hok.fresh (Nat.le_refl _))⟩

/-! ### operators -/
def opOf : Bop → Operator
  | .add => .Add
  | .sub => .Sub
  | .mul => .Mult
  | .fdiv => .FloorDiv
  | .mod => .Mod
  | .pow => .Pow
variable {X : Cx}
theorem bin_ok (hK : X.K = g.K) (op : Bop) : OpR X (binaryOp (opOf op)) (rO2 g (binT op)) := by
  intro pins sh σ H x y v u Q I rx ry h
  obtain ⟨ι, s, tx, ty, rs, r1, r2, an⟩ := h
  have hs : sizeLine = LIM := sizeLine_eq
  obtain ⟨t, e, q⟩ := id an
  -- two ints
  have ints2 : ∀ (a b c : Int), tx = .v (.int a) → ty = .v (.int b) → binT op tx ty s = some (.v (.int c)) → (Q (.int c) H → x = .int a → y = .int b → wpAny (model X.prog X.w) X.A (binaryOp (opOf op) v u) (EP X pins σ Q) X.xe sh) →
      wpAny (model X.prog X.w) X.A (binaryOp (opOf op) v u) (EP X pins σ Q) X.xe sh := fun a b c ea eb ec k => by
    subst ea eb
    exact k (an.same ec rs (rlT.v (.int c))) r1.int_ r2.int_
  unfold binT at e
  split at e
  · cases e
    exact ints2 _ _ _ rfl rfl rfl fun q ex ey => op_add pins sh σ H x y v u Q I rx ry ⟨_, _, ex, ey, q⟩
  · cases e
    exact ints2 _ _ _ rfl rfl rfl fun q ex ey => op_sub pins sh σ H x y v u Q I rx ry ⟨_, _, ex, ey, q⟩
  · split at e
    · rename_i hc
      cases e
      exact ints2 _ _ _ rfl rfl (by simp [binT, hc]) fun q ex ey => op_mulW pins sh σ H x y v u Q I rx ry ⟨_, _, ex, ey, by unfold mulOk at hc; simpa [CMulW] using hc, q⟩
    · cases e
  · split at e
    · rename_i hc
      cases e
      exact ints2 _ _ _ rfl rfl (by simp [binT, hc]) fun q ex ey => op_fdivW pins sh σ H x y v u Q I rx ry ⟨_, _, ex, ey, by unfold divOk at hc; simpa [CDivW] using hc, q⟩
    · cases e
  · split at e
    · rename_i hc
      cases e
      exact ints2 _ _ _ rfl rfl (by simp [binT, hc]) fun q ex ey => op_mod pins sh σ H x y v u Q I rx ry ⟨_, _, ex, ey, hc, q⟩
    · cases e
  · split at e
    · rename_i a b hc
      cases e
      obtain ⟨h1, h2, h3, h4⟩ := hc
      obtain ⟨p, vs, rfl, hq, dq⟩ := r1.tup_
      have l1 := dq.length
      cases r2.int_
      have rep : ∀ n : Nat, RDs g ι H (List.replicate n a).flatten (List.replicate n vs).flatten := fun n => by
        induction n with
        | zero => exact .nil
        | succ n ih => rw [List.replicate_succ, List.replicate_succ, List.flatten_cons, List.flatten_cons]; exact dq.append ih
      refine op_repTW pins sh σ H _ _ v u Q I rx ry ⟨p, b, vs, rfl, rfl, by rw [hK]; exact hq, fun z => h4 (by subst z; exact List.eq_nil_of_length_eq_zero (by simpa using l1)), h1, h2, by omega, fun z hz => ?_⟩
      exact q ι _ _ (Ext.upd hz) (rs.upd hz) (newT rs hz (rep _))
    · cases e
  · split at e
    · rename_i hc
      cases e
      exact ints2 _ _ _ rfl rfl (by simp [binT, hc]) fun q ex ey => op_pow pins sh σ H x y v u Q I rx ry ⟨_, _, ex, ey, hc, q⟩
    · cases e
  · split at e
    · rename_i a b hc
      cases e
      exact op_add_str pins sh σ H x y v u Q I rx ry ⟨_, _, r1.str_, r2.str_, by rw [hs]; exact hc, an.same (by simp [binT, hc]) rs (rlT.v (.str _))⟩
    · cases e
  · split at e
    · rename_i a b hc
      cases e
      obtain ⟨p, vs, rfl, h1, d1⟩ := r1.tup_
      obtain ⟨p', ws, rfl, h2, d2⟩ := r2.tup_
      have l1 := d1.length
      have l2 := d2.length
      refine op_catA pins sh σ H _ _ v u Q I rx ry ⟨p, p', vs, ws, rfl, rfl, by rw [hK]; exact h1, by rw [hK]; exact h2, by rw [hs]; omega, fun hx => ?_, fun hx hy => ?_, fun hx hy z hz => ?_⟩
      · subst hx
        have ea : a = [] := by cases a with | nil => rfl | cons _ _ => simp at l1
        subst ea
        exact q ι H _ Ext.refl rs (by simpa using rlT.v (.tup h2 d2))
      · subst hy
        have eb : b = [] := by cases b with | nil => rfl | cons _ _ => simp at l2
        subst eb
        exact q ι H _ Ext.refl rs (by simpa using rlT.v (.tup h1 d1))
      · exact q ι _ _ (Ext.upd hz) (rs.upd hz) (newT rs hz (d1.append d2))
    · cases e
  · simp only [Option.bind_eq_some_iff] at e
    obtain ⟨a, e1, b, e2, e3⟩ := e
    split at e3
    · rename_i hc
      cases e3
      obtain ⟨p, vs, rfl, h1, d1⟩ := mlst_ok rs r1 e1
      obtain ⟨p', ws, rfl, h2, d2⟩ := mlst_ok rs r2 e2
      have l1 := d1.length
      have l2 := d2.length
      refine op_cat pins sh σ H _ _ v u Q I rx ry ⟨p, p', vs, ws, rfl, rfl, h1, h2, by rw [hs]; omega, fun z hz => ?_⟩
      exact q ι _ _ (Ext.upd hz) (rs.upd hz) (newL rs hz (d1.append d2))
    · cases e3
  · cases e

/-! ### comparisons -/
def cmpOf : Cop → CmpOp
  | .eq => .Eq
  | .ne => .NotEq
  | .lt => .Lt
  | .le => .LtE
  | .gt => .Gt
  | .ge => .GtE
  | .is => .Is
  | .isnot => .IsNot
  | .inn => .In
  | .notin => .NotIn
mutual
theorem dp_of : ∀ {d : D} {v : V} {p : PyData}, RD g ι H d v → D.py d = some p → Dp g.K H v p
  | .non, v, p, r, e => by cases r; simp [D.py] at e; subst e; exact .non
  | .bl b, v, p, r, e => by cases r; simp [D.py] at e; subst e; exact .bl b
  | .int b, v, p, r, e => by cases r; simp [D.py] at e; subst e; exact .int b
  | .str b, v, p, r, e => by cases r; simp [D.py] at e; subst e; exact .str b
  | .tup xs, v, p, r, e => by
    cases r with
    | tup h r =>
      simp only [D.py, Option.map_eq_some_iff] at e
      obtain ⟨ds, e1, rfl⟩ := e
      exact .tup h (dps_of r e1)
  | .loc _, v, p, r, e => by simp [D.py] at e
  | .fro _, v, p, r, e => by simp [D.py] at e
  | .ty _, v, p, r, e => by simp [D.py] at e
  | .gl _, v, p, r, e => by simp [D.py] at e
theorem dps_of : ∀ {d : List D} {v : List V} {p : List PyData}, RDs g ι H d v → D.pys d = some p → DpAll g.K H v p
  | [], v, p, r, e => by cases r; simp [D.pys] at e; subst e; exact .nil
  | x :: xs, v, p, r, e => by
    cases r with
    | cons r t =>
      simp only [D.pys, Option.bind_eq_some_iff, Option.map_eq_some_iff] at e
      obtain ⟨d, e1, ds, e2, rfl⟩ := e
      exact .cons (dp_of r e1) (dps_of t e2)
end
theorem dpT_of {t : T} {v : V} {p : PyData} (rs : RS g ι s H) (r : RT g ι H t v) (e : pyOf t s = some p) : Dp g.K H v p := by
  cases t with
  | l xs =>
    simp only [pyOf, Option.map_eq_some_iff] at e
    obtain ⟨ds, e1, rfl⟩ := e
    obtain ⟨a, vs, rfl, h, r⟩ := lst_ok rs r (xs := xs) rfl
    exact .lst h (dps_of r e1)
  | v d =>
    by_cases hl : ∃ n, d = .loc n
    · obtain ⟨n, rfl⟩ := hl
      simp only [pyOf, Option.bind_eq_some_iff, Option.map_eq_some_iff] at e
      obtain ⟨xs, e0, ds, e1, rfl⟩ := e
      obtain ⟨a, vs, rfl, h, r⟩ := lst_ok rs r (xs := xs) e0
      exact .lst h (dps_of r e1)
    · have e' : D.py d = some p := by cases d <;> first | exact e | exact absurd ⟨_, rfl⟩ hl
      cases r with | v r => exact dp_of r e'
theorem eq_ok (hK : X.K = g.K) (hu : X.A.units + 64 < cLine) : OpR X (compareOp .Eq) (rO2 g fun x y s => (eqT x y s).map fun b => .v (.bl b)) := by
  intro pins sh σ H x y v u Q I rx ry h
  obtain ⟨ι, s, tx, ty, rs, r1, r2, an⟩ := h
  obtain ⟨t, e, q⟩ := id an
  simp only [Option.map_eq_some_iff] at e
  obtain ⟨b, e, rfl⟩ := e
  have q' : Q (.bl b) H := q ι H _ Ext.refl rs (rlT.v (.bl b))
  unfold eqT at e
  split at e
  · cases e; cases r1.non_; cases r2.non_; exact op_eq pins sh σ H _ _ v u Q I rx ry ⟨rfl, q'⟩
  · cases e; cases r1.bl_; cases r2.bl_; exact op_eq pins sh σ H _ _ v u Q I rx ry ⟨rfl, by rename_i a b; cases a <;> cases b <;> exact q'⟩
  · cases e; cases r1.int_; cases r2.int_; exact op_eq pins sh σ H _ _ v u Q I rx ry ⟨rfl, by simpa using q'⟩
  · cases e; cases r1.str_; cases r2.str_; exact op_eq pins sh σ H _ _ v u Q I rx ry ⟨rfl, by simpa using q'⟩
  · simp only [Option.bind_eq_some_iff] at e
    obtain ⟨d, e1, e, e2, e3⟩ := e
    split at e3
    · rename_i hsh
      cases e3
      simp only [Bool.and_eq_true] at hsh
      exact op_eqD hu pins sh σ H x y v u Q I rx ry ⟨d, e, by rw [hK]; exact dpT_of rs r1 e1, by rw [hK]; exact dpT_of rs r2 e2, hsh.1, hsh.2, q'⟩
    · cases e3
theorem ne_ok (hK : X.K = g.K) (hu : X.A.units + 64 < cLine) : OpR X (compareOp .NotEq) (rO2 g fun x y s => ((eqT x y s).map (!·)).map fun b => .v (.bl b)) := by
  intro pins sh σ H x y v u Q I rx ry h
  obtain ⟨ι, s, tx, ty, rs, r1, r2, an⟩ := h
  obtain ⟨t, e, q⟩ := id an
  simp only [Option.map_eq_some_iff] at e
  obtain ⟨b', ⟨b, e, rfl⟩, rfl⟩ := e
  have q' : Q (.bl (!b)) H := q ι H _ Ext.refl rs (rlT.v (.bl (!b)))
  unfold eqT at e
  split at e
  · cases e; cases r1.non_; cases r2.non_; exact op_ne pins sh σ H _ _ v u Q I rx ry ⟨rfl, q'⟩
  · cases e; cases r1.bl_; cases r2.bl_; exact op_ne pins sh σ H _ _ v u Q I rx ry ⟨rfl, by rename_i a b; cases a <;> cases b <;> exact q'⟩
  · cases e; cases r1.int_; cases r2.int_; exact op_ne pins sh σ H _ _ v u Q I rx ry ⟨rfl, by simpa using q'⟩
  · cases e; cases r1.str_; cases r2.str_; exact op_ne pins sh σ H _ _ v u Q I rx ry ⟨rfl, by simpa using q'⟩
  · simp only [Option.bind_eq_some_iff] at e
    obtain ⟨d, e1, e, e2, e3⟩ := e
    split at e3
    · rename_i hsh
      cases e3
      simp only [Bool.and_eq_true] at hsh
      exact op_neD hu pins sh σ H x y v u Q I rx ry ⟨d, e, by rw [hK]; exact dpT_of rs r1 e1, by rw [hK]; exact dpT_of rs r2 e2, hsh.1, hsh.2, q'⟩
    · cases e3
theorem ints_ok : ∀ {xs : List D} {vs : List V} {ns : List Int}, RDs g ι H xs vs → intsD xs = some ns → vs = ns.map V.int
  | [], vs, ns, r, e => by cases r; simp [intsD] at e; subst e; rfl
  | x :: xs, vs, ns, r, e => by
    cases r with
    | cons r t =>
      cases x with
      | int i =>
        simp only [intsD, Option.map_eq_some_iff] at e
        obtain ⟨is, e1, rfl⟩ := e
        rw [r.int_, ints_ok t e1]
        rfl
      | _ => simp [intsD] at e
theorem lexAt_ord (op : Nat) (N M : List Int) (z : Bool) (hz : z = ordI op N.length M.length) : ∀ (ns ms : List Int) (i : Nat), N.drop i = ns → M.drop i = ms → i ≤ N.length → i ≤ M.length →
    Ob.lexAt (fun j => decide (N.getD j 0 = M.getD j 0)) (fun j => ordI op (N.getD j 0) (M.getD j 0)) z i (min ns.length ms.length) = ordL op ns ms
  | [], ms, i, h1, h2, l1, l2 => by
    have e1 : N.length = i := by
      have := congrArg List.length h1
      simp at this; omega
    have e2 : M.length = i + ms.length := by
      have := congrArg List.length h2
      simp at this; omega
    simp only [List.length_nil, Nat.zero_min, Ob.lexAt_zero]
    rw [hz, e1, e2]
    cases ms with
    | nil => simp only [ordL, ordI]; split <;> simp
    | cons m ms => simp only [ordL, ordI, List.length_cons]; split <;> first | (simp; done) | (simp; omega)
  | n :: ns, [], i, h1, h2, l1, l2 => by
    have e1 : N.length = i + (n :: ns).length := by
      have := congrArg List.length h1
      simp at this ⊢; omega
    have e2 : M.length = i := by
      have := congrArg List.length h2
      simp at this; omega
    simp only [List.length_nil, Nat.min_zero, Ob.lexAt_zero]
    rw [hz, e1, e2]
    simp only [ordL, ordI, List.length_cons]; split <;> first | (simp; done) | (simp; omega)
  | n :: ns, m :: ms, i, h1, h2, l1, l2 => by
    have e1 : N.length = i + (n :: ns).length := by
      have := congrArg List.length h1
      simp at this ⊢; omega
    have e2 : M.length = i + (m :: ms).length := by
      have := congrArg List.length h2
      simp at this ⊢; omega
    simp only [List.length_cons] at e1 e2
    have g1 : N.getD i 0 = n := by
      have := congrArg (·[0]?) h1
      simp at this
      simp [List.getD, this]
    have g2 : M.getD i 0 = m := by
      have := congrArg (·[0]?) h2
      simp at this
      simp [List.getD, this]
    have d1 : N.drop (i + 1) = ns := by rw [← List.drop_drop, h1]; rfl
    have d2 : M.drop (i + 1) = ms := by rw [← List.drop_drop, h2]; rfl
    have em : min (n :: ns).length (m :: ms).length = min ns.length ms.length + 1 := by simp
    rw [em, Ob.lexAt_succ, g1, g2]
    simp only [ordL]
    by_cases hnm : n = m
    · simp only [hnm, decide_true, if_true]
      rw [lexAt_ord op N M z hz ns ms (i + 1) d1 d2 (by omega) (by omega)]
    · simp only [hnm, decide_false, Bool.false_eq_true, if_false]
def ordOp : Nat → CmpOp
  | 0 => .Lt
  | 1 => .LtE
  | 2 => .Gt
  | _ => .GtE
theorem ord_tup (hK : X.K = g.K) (hu : X.A.units + 64 < cLine) (op : Nat) (ho : op < 4) {pins : List (Addr × Obj)} {sh : Shared} {σ : L2.St} {Q : VK} {a b : Addr} {ns ms : List Int} (I : Inv X pins σ H sh)
    (ha : SqT X.K H a (ns.map V.int)) (hb : SqT X.K H b (ms.map V.int)) (q : Q (.bl (ordL op ns ms)) H) :
    wpAny (model X.prog X.w) X.A (compareOp (ordOp op) (.ref a) (.ref b)) (EP X pins σ Q) X.xe sh := by
  obtain ⟨its, r1, p1, _⟩ := I.tuple ha
  obtain ⟨its2, r2, p2, _⟩ := I.tuple hb
  have i1 : IntsAre its ns := Vals.ints r1
  have i2 : IntsAre its2 ms := Vals.ints r2
  have e1 : its.toArray.size = ns.length := by rw [List.size_toArray]; exact i1.length
  have e2 : its2.toArray.size = ms.length := by rw [List.size_toArray]; exact i2.length
  have at1 : ∀ j (h1 : j < its.toArray.size), ∃ t, its.toArray[j] = .int (ns.getD j 0) t := fun j h1 => PyProof.Rows.IntsAre.int_at i1 _ _ (by simp at h1; simp [h1])
  have at2 : ∀ j (h1 : j < its2.toArray.size), ∃ t, its2.toArray[j] = .int (ms.getD j 0) t := fun j h1 => PyProof.Rows.IntsAre.int_at i2 _ _ (by simp at h1; simp [h1])
  have eqs : ∀ A j (h1 : j < its.toArray.size) (h2 : j < its2.toArray.size), SeqAt.EqAt A sh its.toArray[j] its2.toArray[j] (decide (ns.getD j 0 = ms.getD j 0)) := fun A j h1 h2 => by
    obtain ⟨t, et⟩ := at1 j h1
    obtain ⟨t', et'⟩ := at2 j h2
    rw [et, et']
    have z : (ns.getD j 0 == ms.getD j 0) = decide (ns.getD j 0 = ms.getD j 0) := by
      by_cases q : ns.getD j 0 = ms.getD j 0
      · rw [decide_eq_true q]; exact beq_iff_eq.mpr q
      · rw [decide_eq_false q]; exact beq_eq_false_iff_ne.mpr q
    rw [← z]
    exact SeqAt.EqAt.int_int _ _ _ _
  have fin : ∀ z, z = ordI op ns.length ms.length → Ob.lexAt (fun j => decide (ns.getD j 0 = ms.getD j 0)) (fun j => ordI op (ns.getD j 0) (ms.getD j 0)) z 0 (min ns.length ms.length) = ordL op ns ms :=
    fun z hz => lexAt_ord op ns ms z hz ns ms 0 rfl rfl (Nat.zero_le _) (Nat.zero_le _)
  have hu' : X.A.units < cLine := by omega
  match op, ho with
  | 0, _ =>
    have R := Ob.RcOp.tuples_lt (A := X.A) (s := sh) (e := fun j => decide (ns.getD j 0 = ms.getD j 0)) (r := fun j => ordI 0 (ns.getD j 0) (ms.getD j 0)) p1 p2 hu' (eqs _) (fun j h1 h2 _ => by
      obtain ⟨t, et⟩ := at1 j h1
      obtain ⟨t', et'⟩ := at2 j h2
      rw [et, et']
      exact Ob.RcOp.lt_int _ _ _ _)
    rw [e1, e2, fin _ (by simp [ordI])] at R
    exact R X.prog X.w X.xe (EP X pins σ Q) ⟨.bl _, H, I, rfl, q⟩
  | 1, _ =>
    have R := Ob.RcOp.tuples_le (A := X.A) (s := sh) (e := fun j => decide (ns.getD j 0 = ms.getD j 0)) (r := fun j => ordI 1 (ns.getD j 0) (ms.getD j 0)) p1 p2 hu' (eqs _) (fun j h1 h2 _ => by
      obtain ⟨t, et⟩ := at1 j h1
      obtain ⟨t', et'⟩ := at2 j h2
      rw [et, et']
      exact Ob.RcOp.le_int _ _ _ _)
    rw [e1, e2, fin _ (by simp [ordI])] at R
    exact R X.prog X.w X.xe (EP X pins σ Q) ⟨.bl _, H, I, rfl, q⟩
  | 2, _ =>
    have R := Ob.RcOp.tuples_gt (A := X.A) (s := sh) (e := fun j => decide (ns.getD j 0 = ms.getD j 0)) (r := fun j => ordI 2 (ns.getD j 0) (ms.getD j 0)) p1 p2 hu' (eqs _) (fun j h1 h2 _ => by
      obtain ⟨t, et⟩ := at1 j h1
      obtain ⟨t', et'⟩ := at2 j h2
      rw [et, et']
      exact Ob.RcOp.gt_int _ _ _ _)
    rw [e1, e2, fin _ (by simp [ordI])] at R
    exact R X.prog X.w X.xe (EP X pins σ Q) ⟨.bl _, H, I, rfl, q⟩
  | 3, _ =>
    have R := Ob.RcOp.tuples_ge (A := X.A) (s := sh) (e := fun j => decide (ns.getD j 0 = ms.getD j 0)) (r := fun j => ordI 3 (ns.getD j 0) (ms.getD j 0)) p1 p2 hu' (eqs _) (fun j h1 h2 _ => by
      obtain ⟨t, et⟩ := at1 j h1
      obtain ⟨t', et'⟩ := at2 j h2
      rw [et, et']
      exact Ob.RcOp.ge_int _ _ _ _)
    rw [e1, e2, fin _ (by simp [ordI])] at R
    exact R X.prog X.w X.xe (EP X pins σ Q) ⟨.bl _, H, I, rfl, q⟩
theorem ord_ok (hK : X.K = g.K) (hu : X.A.units + 64 < cLine) (op : Nat) (ho : op < 4) : OpR X (compareOp (ordOp op)) (rO2 g fun x y _ => (ordT op x y).map fun b => .v (.bl b)) := by
  intro pins sh σ H x y v u Q I rx ry h
  obtain ⟨ι, s, tx, ty, rs, r1, r2, an⟩ := h
  obtain ⟨t, e, q⟩ := id an
  simp only [Option.map_eq_some_iff] at e
  obtain ⟨b, e, rfl⟩ := e
  have q' : Q (.bl b) H := q ι H _ Ext.refl rs (rlT.v (.bl b))
  unfold ordT at e
  split at e
  · cases e
    cases r1.int_; cases r2.int_
    match op, ho with
    | 0, _ => exact op_lt pins sh σ H _ _ v u Q I rx ry ⟨_, _, rfl, rfl, q'⟩
    | 1, _ => exact op_le pins sh σ H _ _ v u Q I rx ry ⟨_, _, rfl, rfl, q'⟩
    | 2, _ => exact op_gt pins sh σ H _ _ v u Q I rx ry ⟨_, _, rfl, rfl, q'⟩
    | 3, _ => exact op_ge pins sh σ H _ _ v u Q I rx ry ⟨_, _, rfl, rfl, q'⟩
  · simp only [Option.bind_eq_some_iff, Option.map_eq_some_iff] at e
    obtain ⟨ns, e1, ms, e2, rfl⟩ := e
    obtain ⟨p, vs, rfl, h1, d1⟩ := r1.tup_
    obtain ⟨p', ws, rfl, h2, d2⟩ := r2.tup_
    cases rx; cases ry
    rw [ints_ok d1 e1] at h1
    rw [ints_ok d2 e2] at h2
    exact ord_tup hK hu op ho I (by rw [hK]; exact h1) (by rw [hK]; exact h2) q'
  · cases e
end
end Fy
end
section
set_option Elab.async false
set_option linter.all false
set_option maxRecDepth 100000
set_option maxHeartbeats 1000000
/-! Fy5: is, in, items, slices, built-ins, by values. -/
namespace Fy
open PySem PySem.Spec PyProof.Rows L2
section
variable {g : Glo} {ι : List Addr} {H : Hp} {s : Sto} {X : Cx}

theorem is_none {x : T} {v : V} {d : Bool} (r : RT g ι H x v) (e : isT x (.v .non) = some d) : decide (v = .non) = d := by
  cases r with
  | l h n r => simp [isT] at e; subst e; simp
  | v r => cases r <;> (simp [isT] at e; subst e; simp)
theorem is_ok : OpR X (compareOp .Is) (rO2 g fun x y _ => (isT x y).map fun b => .v (.bl b)) := by
  intro pins sh σ H x y v u Q I rx ry h
  obtain ⟨ι, s, tx, ty, rs, r1, r2, an⟩ := h
  obtain ⟨t, e, q⟩ := id an
  simp only [Option.map_eq_some_iff] at e
  obtain ⟨b, e, rfl⟩ := e
  have q' : Q (.bl b) H := q ι H _ Ext.refl rs (rlT.v (.bl b))
  cases ty with
  | l _ => simp [isT] at e
  | v d =>
    cases d with
    | non =>
      cases r2.non_
      exact op_isN pins sh σ H _ _ v u Q I rx ry ⟨rfl, by rw [is_none r1 e]; exact q'⟩
    | bl c =>
      cases r2.bl_
      cases tx with
      | l _ => simp [isT] at e
      | v d =>
        cases d with
        | bl a =>
          cases r1.bl_
          simp [isT] at e
          subst e
          exact op_is_bl pins sh σ H _ _ v u Q I rx ry ⟨_, _, rfl, rfl, by cases a <;> cases c <;> exact q'⟩
        | _ => simp [isT] at e
    | _ => cases tx <;> simp [isT] at e
theorem isnot_ok : OpR X (compareOp .IsNot) (rO2 g fun x y _ => ((isT x y).map (!·)).map fun b => .v (.bl b)) := by
  intro pins sh σ H x y v u Q I rx ry h
  obtain ⟨ι, s, tx, ty, rs, r1, r2, an⟩ := h
  obtain ⟨t, e, q⟩ := id an
  simp only [Option.map_eq_some_iff] at e
  obtain ⟨b', ⟨b, e, rfl⟩, rfl⟩ := e
  have q' : Q (.bl (!b)) H := q ι H _ Ext.refl rs (rlT.v (.bl _))
  cases ty with
  | l _ => simp [isT] at e
  | v d =>
    cases d with
    | non =>
      cases r2.non_
      exact op_notN pins sh σ H _ _ v u Q I rx ry ⟨rfl, by rw [is_none r1 e]; exact q'⟩
    | bl c =>
      cases r2.bl_
      cases tx with
      | l _ => simp [isT] at e
      | v d =>
        cases d with
        | bl a =>
          cases r1.bl_
          simp [isT] at e
          subst e
          exact op_isnot_bl pins sh σ H _ _ v u Q I rx ry ⟨_, _, rfl, rfl, by cases a <;> cases c <;> exact q'⟩
        | _ => simp [isT] at e
    | _ => cases tx <;> simp [isT] at e

/-! dicts -/
theorem dkA_ok {d : D} {v : V} {k : Ky} (r : RD g ι H d v) (e : dkA d = some k) : v = kV k := by
  cases r <;> (simp [dkA] at e; try (subst e; rfl))
def RVO (g : Glo) (ι : List Addr) (H : Hp) : Option Fy.D → Option V → Prop
  | some d, some v => RD g ι H d v
  | none, none => True
  | _, _ => False
theorem dval_rel {kvs : List (List Ky × Fy.D)} {vk : List (Ky × V)} (r : RKV g ι H (fun k : Ky => [k]) kvs vk) (k : Ky) : RVO g ι H (dval kvs [k]) (valV vk k) := by
  induction r with
  | nil => exact True.intro
  | @cons p q ps qs h t ih =>
    by_cases e : q.1 = k
    · have e1 : dval (p :: ps) [k] = some p.2 := by simp [dval, List.find?_cons, h.1, e]
      rw [e1, valV_pos e]
      exact h.2
    · have e1 : dval (p :: ps) [k] = dval ps [k] := by simp [dval, List.find?_cons, h.1, e]
      rw [e1, valV_neg e]
      exact ih
theorem dset_any {kvs : List (List Ky × Fy.D)} {vk : List (Ky × V)} (r : RKV g ι H (fun k : Ky => [k]) kvs vk) (k : Ky) : (kvs.any fun kv => decide (kv.1 = [k])) = vk.any fun kv => decide (kv.1 = k) := by
  induction r with
  | nil => rfl
  | @cons p q ps qs h t ih => simp only [List.any_cons, h.1, ih, List.cons.injEq, and_true]
theorem dset_map {kvs : List (List Ky × Fy.D)} {vk : List (Ky × V)} (r : RKV g ι H (fun k : Ky => [k]) kvs vk) (k : Ky) {d : Fy.D} {w : V} (rd : RD g ι H d w) :
    RKV g ι H (fun k : Ky => [k]) (kvs.map fun kv => if kv.1 = [k] then (kv.1, d) else kv) (vk.map fun kv => if kv.1 = k then (kv.1, w) else kv) := by
  induction r with
  | nil => exact .nil
  | @cons p q ps qs h t ih =>
    refine .cons ?_ ih
    by_cases e : q.1 = k
    · have e2 : p.1 = [k] := by rw [h.1, e]
      dsimp only
      rw [if_pos e2, if_pos e]
      exact ⟨h.1, rd⟩
    · have e2 : ¬ p.1 = [k] := by rw [h.1]; simpa using e
      dsimp only
      rw [if_neg e2, if_neg e]
      exact h
theorem RKV.snoc {κ : Type} {c : κ → List Ky} {kvs : List (List Ky × Fy.D)} {vk : List (κ × V)} (r : RKV g ι H c kvs vk) {k : κ} {d : Fy.D} {w : V} (rd : RD g ι H d w) : RKV g ι H c (kvs ++ [(c k, d)]) (vk ++ [(k, w)]) := by
  induction r with
  | nil => exact .cons ⟨rfl, rd⟩ .nil
  | cons h t ih => exact .cons h ih
theorem dset_rel {kvs : List (List Ky × Fy.D)} {vk : List (Ky × V)} (r : RKV g ι H (fun k : Ky => [k]) kvs vk) (k : Ky) {d : Fy.D} {w : V} (rd : RD g ι H d w) : RKV g ι H (fun k : Ky => [k]) (dset kvs [k] d) (putK vk k w) := by
  unfold dset putK
  rw [dset_any r k]
  split
  · exact dset_map r k rd
  · exact r.snoc rd
theorem dicAt_ok {x y : T} {v u : V} {o : Option Fy.D} (rs : RS g ι s H) (r1 : RT g ι H x v) (r2 : RT g ι H y u) (e : dicAt x y s = some o) : ∃ a ov, v = .ref a ∧ DGet H a u ov ∧ RVO g ι H o ov := by
  unfold dicAt at e
  split at e
  · rename_i n k
    split at e
    · rename_i t kvs hn
      cases r1 with
      | v r1 => cases r1 with
        | @loc _ a q =>
          obtain ⟨b, e1, ro⟩ := rs.at_ n _ hn
          have eb : b = a := by rw [q] at e1; exact (Option.some.inj e1).symm
          subst eb
          cases t with
          | true => simp [dkey] at e
          | false =>
            obtain ⟨vk, e2, rk⟩ := ro
            simp only [dkey, Bool.false_eq_true, if_false, Option.map_eq_some_iff] at e
            obtain ⟨_, ⟨k', ek, rfl⟩, rfl⟩ := e
            cases r2 with
            | v r2 =>
              have eu := dkA_ok r2 ek
              subst eu
              exact ⟨b, _, rfl, .k e2, dval_rel rk k'⟩
    · cases e
  · cases e
theorem ix_dic (hu : X.A.units + 1 < cLine) : IxR X (fun x y H Q => ∃ a v, x = .ref a ∧ DGet H a y (some v) ∧ Q v H) := by
  intro va sl pins sh σ H x y v u Q I rx ry ⟨a, w, ex, dg, q⟩ hsub
  subst ex
  obtain rfl : v = Value.ref a := rx
  exact tail_any (dict_typeIs I dg) slot_dict_getitem.lookup (d_getItem hu I dg ry fun w' s3 I3 rw' => ⟨w, H, I3, rw', q⟩) hsub
theorem op_dic_in (hu : X.A.units + 1 < cLine) : OpR X (compareOp .In) (fun y x H Q => ∃ a o, x = .ref a ∧ DGet H a y o ∧ Q (.bl o.isSome) H) := by
  intro pins sh σ H y x v u Q I ry rx ⟨a, o, ex, dg, q⟩
  subst ex
  obtain rfl : u = Value.ref a := rx
  exact d_in hu I dg ry fun s3 I3 => ⟨.bl o.isSome, H, I3, rfl, q⟩
theorem op_dic_notin (hu : X.A.units + 1 < cLine) : OpR X (compareOp .NotIn) (fun y x H Q => ∃ a o, x = .ref a ∧ DGet H a y o ∧ Q (.bl (!o.isSome)) H) := by
  intro pins sh σ H y x v u Q I ry rx ⟨a, o, ex, dg, q⟩
  subst ex
  obtain rfl : u = Value.ref a := rx
  exact d_notIn hu I dg ry fun s3 I3 => ⟨.bl (!o.isSome), H, I3, rfl, q⟩
theorem RVO.isSome {o : Option Fy.D} {ov : Option V} (r : RVO g ι H o ov) : ov.isSome = o.isSome := by
  cases o <;> cases ov <;> first | rfl | exact r.elim

theorem flat_of {d : D} {v : V} (r : RD g ι H d v) (f : flat d = true) : flatV v = true := by
  cases r <;> first | rfl | (simp [flat] at f)
theorem flats_of : ∀ {xs : List D} {vs : List V}, RDs g ι H xs vs → xs.all flat = true → vs.all flatV = true
  | _, _, .nil, _ => rfl
  | _, _, .cons r t, f => by
    simp only [List.all_cons, Bool.and_eq_true] at f ⊢
    exact ⟨flat_of r f.1, flats_of t f.2⟩
theorem eqF_of {d e : D} {v w : V} (r : RD g ι H d v) (q : RD g ι H e w) (f : flat d = true) (f' : flat e = true) : eqV v w = eqF d e := by
  cases r <;> (first | (simp [flat] at f; done) | skip) <;> cases q <;> first | rfl | (simp [flat] at f')
theorem any_of {d : D} {v : V} (r : RD g ι H d v) (f : flat d = true) : ∀ {xs : List D} {vs : List V}, RDs g ι H xs vs → xs.all flat = true → inV v vs = xs.any fun z => eqF z d
  | _, _, .nil, _ => rfl
  | _, _, .cons r' t, f' => by
    simp only [List.all_cons, Bool.and_eq_true] at f'
    unfold inV
    rw [List.any_cons, List.any_cons, eqF_of r' r f'.1 f, ← any_of r f t f'.2]
    rfl
theorem in_gen (hK : X.K = g.K) (hu : X.A.units + 65 < cLine) {tx ty : T} {x y : V} {b : Bool} (rs : RS g ι s H) (r1 : RT g ι H tx x) (r2 : RT g ι H ty y) (e : inT tx ty s = some b) :
    (∃ a o, y = .ref a ∧ DGet H a x o ∧ o.isSome = b) ∨ (∃ p xs, y = .ref p ∧ (SqL X.K H p xs ∨ SqT X.K H p xs) ∧ flatV x = true ∧ xs.all flatV = true ∧ inV x xs = b) ∨
    (∃ d ds, Dp X.K H x d ∧ Dp X.K H y (.list ds) ∧ SeqAt.shaped d = true ∧ SeqAt.shaped (.list ds) = true ∧ (ds.any fun z => PyData.eqv z d) = b) := by
  unfold inT at e
  split at e
  · rename_i o he
    obtain ⟨a, ov, ey, dg, ro⟩ := dicAt_ok rs r2 r1 he
    exact .inl ⟨a, ov, ey, dg, by rw [ro.isSome]; exact Option.some.inj e⟩
  cases tx with
  | l _ => simp at e
  | v d =>
    refine .inr ?_
    simp only [Option.bind_eq_some_iff] at e
    obtain ⟨xs, e1, e2⟩ := e
    obtain ⟨a, vs, rfl, hq, dq, ht, hl⟩ := seq_ok rs r2 e1
    split at e2
    · rename_i hf
      simp only [Bool.and_eq_true] at hf
      cases e2
      cases r1 with
      | v r1 => exact .inl ⟨a, vs, rfl, by rw [hK]; exact hq, flat_of r1 hf.1, flats_of dq hf.2, any_of r1 hf.1 dq hf.2⟩
    · split at e2
      · cases e2
      · rename_i hn
        simp only [Option.bind_eq_some_iff] at e2
        obtain ⟨p, e3, ps, e4, e5⟩ := e2
        split at e5
        · rename_i hsh
          simp only [Bool.and_eq_true] at hsh
          cases e5
          cases r1 with
          | v r1 => exact .inr ⟨p, ps, by rw [hK]; exact dp_of r1 e3, by rw [hK]; exact .lst (hl fun ys e => hn ys e) (dps_of dq e4), hsh.1, hsh.2, rfl⟩
        · cases e5
theorem in_ok (hK : X.K = g.K) (hu : X.A.units + 65 < cLine) : OpR X (compareOp .In) (rO2 g fun x y s => (inT x y s).map fun b => .v (.bl b)) := by
  intro pins sh σ H x y v u Q I rx ry h
  obtain ⟨ι, s, tx, ty, rs, r1, r2, an⟩ := h
  obtain ⟨t, e, q⟩ := id an
  simp only [Option.map_eq_some_iff] at e
  obtain ⟨b, e, rfl⟩ := e
  have q' : Q (.bl b) H := q ι H _ Ext.refl rs (rlT.v (.bl b))
  rcases in_gen hK hu rs r1 r2 e with ⟨a, o, ey, dg, rfl⟩ | ⟨p, xs, ey, hq, f1, f2, rfl⟩ | ⟨d, ds, h1, h2, s1, s2, rfl⟩
  · exact op_dic_in (by omega) pins sh σ H _ _ v u Q I rx ry ⟨a, o, ey, dg, q'⟩
  · exact op_in_seq pins sh σ H _ _ v u Q I rx ry ⟨p, xs, ey, hq, f1, f2, q'⟩
  · exact op_inD hu pins sh σ H _ _ v u Q I rx ry ⟨d, ds, h1, h2, s1, s2, q'⟩
theorem notin_ok (hK : X.K = g.K) (hu : X.A.units + 65 < cLine) : OpR X (compareOp .NotIn) (rO2 g fun x y s => ((inT x y s).map (!·)).map fun b => .v (.bl b)) := by
  intro pins sh σ H x y v u Q I rx ry h
  obtain ⟨ι, s, tx, ty, rs, r1, r2, an⟩ := h
  obtain ⟨t, e, q⟩ := id an
  simp only [Option.map_eq_some_iff] at e
  obtain ⟨b', ⟨b, e, rfl⟩, rfl⟩ := e
  have q' : Q (.bl (!b)) H := q ι H _ Ext.refl rs (rlT.v (.bl _))
  rcases in_gen hK hu rs r1 r2 e with ⟨a, o, ey, dg, rfl⟩ | ⟨p, xs, ey, hq, f1, f2, rfl⟩ | ⟨d, ds, h1, h2, s1, s2, rfl⟩
  · exact op_dic_notin (by omega) pins sh σ H _ _ v u Q I rx ry ⟨a, o, ey, dg, q'⟩
  · exact op_notIn_seq pins sh σ H _ _ v u Q I rx ry ⟨p, xs, ey, hq, f1, f2, q'⟩
  · exact op_notInD hu pins sh σ H _ _ v u Q I rx ry ⟨d, ds, h1, h2, s1, s2, q'⟩
theorem cmp_ok (hK : X.K = g.K) (hu : X.A.units + 65 < cLine) (op : Cop) : OpR X (compareOp (cmpOf op)) (rO2 g fun x y s => (cmpT op x y s).map fun b => .v (.bl b)) := by
  have hu' : X.A.units + 64 < cLine := by omega
  cases op with
  | eq => exact eq_ok hK hu'
  | ne => exact ne_ok hK hu'
  | lt => exact ord_ok hK hu' 0 (by decide)
  | le => exact ord_ok hK hu' 1 (by decide)
  | gt => exact ord_ok hK hu' 2 (by decide)
  | ge => exact ord_ok hK hu' 3 (by decide)
  | is => exact is_ok
  | isnot => exact isnot_ok
  | inn => exact in_ok hK hu
  | notin => exact notin_ok hK hu

/-! ### items and slices -/
theorem atI_ok {xs : List D} {vs : List V} {i : Int} {d : D} (r : RDs g ι H xs vs) (e : atI xs i = some d) : ∃ v, atI vs i = some v ∧ RD g ι H d v := by
  unfold atI at e ⊢
  rw [← r.length]
  cases h : ixN xs.length i with
  | none => rw [h] at e; cases e
  | some j =>
    rw [h] at e
    exact r.get e
theorem idx_ok (hK : X.K = g.K) (hu : X.A.units + 65 < cLine) : IxR X (rO2 g idxT) := by
  intro va sl pins sh σ H x y v u Q I rx ry h hsub
  obtain ⟨ι, s, tx, ty, rs, r1, r2, an⟩ := h
  obtain ⟨t, e, q⟩ := id an
  unfold idxT at e
  split at e
  · rename_i o he
    obtain ⟨a, ov, ey, dg, ro⟩ := dicAt_ok rs r1 r2 he
    cases o with
    | none => cases e
    | some d =>
      cases ov with
      | none => exact ro.elim
      | some w =>
        cases e
        exact ix_dic (by omega) va sl pins sh σ H _ _ v u Q I rx ry ⟨a, w, ey, dg, q ι H _ Ext.refl rs (rlT.v ro)⟩ hsub
  cases ty with
  | l _ => simp at e
  | v d =>
    cases d with
    | int i =>
      cases r2.int_
      simp only [Option.map_eq_some_iff, Option.bind_eq_some_iff] at e
      obtain ⟨d, ⟨xs, e1, e2⟩, rfl⟩ := e
      obtain ⟨a, vs, rfl, hq, dq, ht, hl⟩ := seq_ok rs r1 e1
      obtain ⟨w, e3, rw'⟩ := atI_ok dq e2
      have q' : Q w H := q ι H _ Ext.refl rs (rlT.v rw')
      rcases hq with hq | hq
      · exact ix_list va sl pins sh σ H _ _ v u Q I rx ry ⟨a, vs, i, w, rfl, rfl, by rw [hK]; exact hq, e3, q'⟩ hsub
      · exact ix_tup va sl pins sh σ H _ _ v u Q I rx ry ⟨a, vs, i, w, rfl, rfl, by rw [hK]; exact hq, e3, q'⟩ hsub
    | _ => simp at e
theorem cut_ok {xs : List D} {vs : List V} (r : RDs g ι H xs vs) (lo hi : Option Int) : RDs g ι H (cutD xs lo hi) (cutV vs lo hi) := by
  unfold cutD cutV
  rw [r.length]
  exact (r.drop _).take _
def rOS (g : Glo) : V → Option Int → Option Int → Hp → VK → Prop := fun x lo hi H Q => ∃ ι s tx, RS g ι s H ∧ RT g ι H tx x ∧ Ans g ι s H (slcT tx lo hi s) Q
theorem slc_ok (hK : X.K = g.K) : SlR X (rOS g) := by
  intro pins sh σ H x v vl vu lo hi sl Q I rx hs pl pu h
  obtain ⟨ι, s, tx, rs, r1, an⟩ := h
  obtain ⟨t, e, q⟩ := id an
  have lst : ∀ xs, lstOf tx s = some xs → t = .l (cutD xs lo hi) → ∃ T id, typeLookup (.type T) "__getitem__" = pure (some (.builtin id)) ∧ sh.TypeIs v T ∧ wpAny (model X.prog X.w) X.A (getItem v (.ref sl)) (EP X pins σ Q) X.xe sh := fun xs e1 e2 => by
    obtain ⟨a, vs, rfl, hq, dq⟩ := lst_ok rs r1 e1
    refine sl_list pins sh σ H _ v vl vu lo hi sl Q I rx hs pl pu ⟨a, vs, rfl, by rw [hK]; exact hq, fun p hp => ?_⟩
    subst e2
    exact q ι _ _ (Ext.upd hp) (rs.upd hp) (newL rs hp (cut_ok dq lo hi))
  cases tx with
  | l xs =>
    simp only [slcT, Option.map_eq_some_iff] at e
    obtain ⟨ys, e1, e2⟩ := e
    exact lst ys e1 e2.symm
  | v d =>
    cases d with
    | tup xs =>
      have et : T.v (.tup (cutD xs lo hi)) = t := by simpa [slcT] using e
      subst et
      obtain ⟨a, vs, rfl, hq, dq⟩ := r1.tup_
      refine sl_tupA pins sh σ H _ v vl vu lo hi sl Q I rx hs pl pu ⟨a, vs, rfl, by rw [hK]; exact hq, fun hw => ?_, fun hw p hp => ?_⟩
      · have ec : cutD xs lo hi = xs := by
          have hl := dq.length
          unfold cutD
          rw [hl, hw.1, hw.2, ← hl]
          simp
        rw [ec] at q
        exact q ι H _ Ext.refl rs (rlT.v (.tup hq dq))
      · exact q ι _ _ (Ext.upd hp) (rs.upd hp) (newT rs hp (cut_ok dq lo hi))
    | _ =>
      first
        | (simp [slcT, lstOf] at e; done)
        | (simp only [slcT, Option.map_eq_some_iff] at e
           obtain ⟨ys, e1, e2⟩ := e
           exact lst ys e1 e2.symm)

/-! ### built-ins -/
theorem bools_ok : ∀ {xs : List D} {vs : List V} {bs : List Bool}, RDs g ι H xs vs → bools xs = some bs → vs = bs.map V.bl
  | [], vs, ns, r, e => by cases r; simp [bools] at e; subst e; rfl
  | x :: xs, vs, ns, r, e => by
    cases r with
    | cons r t =>
      cases x with
      | bl i =>
        simp only [bools, Option.map_eq_some_iff] at e
        obtain ⟨is, e1, rfl⟩ := e
        cases r
        rw [bools_ok t e1]
        rfl
      | _ => simp [bools] at e
theorem kit_kinds : ∀ t ∈ ["NoneType", "bool", "int", "str", "tuple", "list"], ∀ c ∈ kinds, kitB t c = some (isSub t c) := by decide +kernel
theorem ty_ok {t : T} {v : V} {n : String} (rs : RS g ι s H) (r : RT g ι H t v) (e : tyOf t s = some n) : TyX g.K H v (.type n) ∧ n ∈ ["NoneType", "bool", "int", "str", "tuple", "list"] := by
  cases r with
  | l h nn r => simp [tyOf] at e; subst e; exact ⟨.base (.lst h), by simp⟩
  | @v d v r =>
    cases r with
    | non => simp [tyOf] at e; subst e; exact ⟨.base .non, by simp⟩
    | bl b => simp [tyOf] at e; subst e; exact ⟨.base (.bl b), by simp⟩
    | int i => simp [tyOf] at e; subst e; exact ⟨.base (.int i), by simp⟩
    | str x => simp [tyOf] at e; subst e; exact ⟨.base (.str x), by simp⟩
    | ty m => simp [tyOf] at e
    | gl m => simp [tyOf] at e
    | tup h r =>
      simp [tyOf] at e
      subst e
      refine ⟨?_, by simp⟩
      rcases h with (h | ⟨o, h⟩) | ⟨o, its, m, h1, h2, _⟩
      · exact .base (.tup h)
      · exact .fTuple h
      · exact .kTuple h1 h2
    | fro h r =>
      simp [tyOf] at e
      subst e
      refine ⟨?_, by simp⟩
      rcases h with ⟨o, h⟩ | ⟨o, its, m, h1, h2, _⟩
      · exact .base (.frz h)
      · exact .kList h1 h2
    | @loc m a h =>
      simp only [tyOf, Option.map_eq_some_iff] at e
      obtain ⟨xs, e1, e2⟩ := e
      subst e2
      refine ⟨?_, by simp⟩
      unfold lstAt at e1
      cases q : s[m]? with
      | none => rw [q] at e1; simp at e1
      | some o =>
        obtain ⟨b, e3, r3⟩ := rs.at_ m o q
        have eb : b = a := by rw [h] at e3; exact (Option.some.inj e3).symm
        subst eb
        cases o with
        | lst ys => obtain ⟨vs, e4, _⟩ := r3; exact .base (.lst e4)
        | dic _ _ => rw [q] at e1; cases e1
        | ins _ _ => exact r3.elim

def biOf : Bi → Value
  | .len => .builtin "len"
  | .int => .type "int"
  | .abs => .builtin "abs"
  | .isinst => .builtin "isinstance"
  | .all => .builtin "all"
  | .any => .builtin "any"
  | .tuple => .type "tuple"
  | .list => .type "list"
  | .min => .builtin "min"
  | .max => .builtin "max"
  | .sum => .builtin "sum"
  | .sorted => .builtin "sorted"
theorem RTs.one {t : T} {vs : List V} (r : RTs g ι H [t] vs) : ∃ v, vs = [v] ∧ RT g ι H t v := by
  cases r with | cons r t => cases t; exact ⟨_, rfl, r⟩
theorem RTs.two {t u : T} {vs : List V} (r : RTs g ι H [t, u] vs) : ∃ v w, vs = [v, w] ∧ RT g ι H t v ∧ RT g ι H u w := by
  cases r with | cons r t => cases t with | cons r' t => cases t; exact ⟨_, _, rfl, r, r'⟩
def rOB (g : Glo) (f : Bi) : List V → Hp → VK → Prop := fun vs H Q => ∃ ι s ts, RS g ι s H ∧ RTs g ι H ts vs ∧ Ans g ι s H (biT f ts s) Q
theorem bi_ok (hK : X.K = g.K) (hc : X.calm = true) (f : Bi) : CallR X (biOf f) (rOB g f) := by
  intro pins sh σ H vs us Q I rv h
  obtain ⟨ι, s, ts, rs, r, an⟩ := h
  obtain ⟨t, e, q⟩ := id an
  have hs : sizeLine = LIM := sizeLine_eq
  have fin : ∀ d v, t = .v d → RD g ι H d v → Q v H := fun d v et rd => by subst et; exact q ι H _ Ext.refl rs (rlT.v rd)
  unfold biT at e
  split at e
  · -- len
    obtain ⟨v, rfl, r1⟩ := r.one
    split at e
    · split at e
      · rename_i z hz
        cases e
        cases r1.str_
        exact call_len pins sh σ H _ us Q I rv ⟨_, z.length, rfl, ⟨by rw [hs]; exact hz, rfl⟩, fin _ _ rfl (.int _)⟩
      · cases e
    · simp only [Option.map_eq_some_iff] at e
      obtain ⟨xs, e1, e2⟩ := e
      obtain ⟨a, ws, rfl, hq, dq, _⟩ := seq_ok rs r1 e1
      refine call_len pins sh σ H _ us Q I rv ⟨_, ws.length, rfl, ?_, ?_⟩
      · rcases hq with hq | hq
        · exact .inl ⟨ws, by rw [hK]; exact hq, rfl⟩
        · exact .inr ⟨ws, by rw [hK]; exact hq, rfl⟩
      · rw [← dq.length]
        exact fin _ _ e2.symm (.int _)
  · obtain ⟨v, rfl, r1⟩ := r.one
    cases r1.int_
    cases e
    exact call_int1 pins sh σ H _ us Q I rv (.inl ⟨_, rfl, fin _ _ rfl (.int _)⟩)
  · obtain ⟨v, rfl, r1⟩ := r.one
    cases r1.bl_
    cases e
    exact call_int1 pins sh σ H _ us Q I rv (.inr ⟨_, rfl, fin _ _ rfl (.int _)⟩)
  · obtain ⟨v, rfl, r1⟩ := r.one
    cases r1.int_
    cases e
    exact call_abs pins sh σ H _ us Q I rv ⟨_, rfl, fin _ _ rfl (.int _)⟩
  · -- isinstance
    obtain ⟨v, w, rfl, r1, r2⟩ := r.two
    cases r2.ty_
    simp only [Option.bind_eq_some_iff] at e
    obtain ⟨n, e1, e2⟩ := e
    split at e2
    · rename_i hk
      cases e2
      obtain ⟨tx, hn⟩ := ty_ok rs r1 e1
      exact call_isi pins sh σ H _ us Q I rv ⟨_, _, _, _, _, rfl, .ty _, by rw [hK]; exact tx, kit_ty (kit_kinds n hn _ hk), fin _ _ rfl (.bl _)⟩
    · cases e2
  · obtain ⟨v, rfl, r1⟩ := r.one
    simp only [Option.map_eq_some_iff, Option.bind_eq_some_iff] at e
    obtain ⟨bs, ⟨xs, e1, e2⟩, e3⟩ := e
    obtain ⟨a, ws, rfl, hq, dq⟩ := lst_ok rs r1 e1
    rw [bools_ok dq e2] at hq
    exact cr_all hc pins sh σ H _ us Q I rv ⟨a, bs, rfl, by rw [hK]; exact hq, fin _ _ e3.symm (.bl _)⟩
  · obtain ⟨v, rfl, r1⟩ := r.one
    simp only [Option.map_eq_some_iff, Option.bind_eq_some_iff] at e
    obtain ⟨bs, ⟨xs, e1, e2⟩, e3⟩ := e
    obtain ⟨a, ws, rfl, hq, dq⟩ := lst_ok rs r1 e1
    rw [bools_ok dq e2] at hq
    exact cr_any hc pins sh σ H _ us Q I rv ⟨a, bs, rfl, by rw [hK]; exact hq, fin _ _ e3.symm (.bl _)⟩
  · -- tuple
    obtain ⟨v, rfl, r1⟩ := r.one
    simp only [Option.map_eq_some_iff] at e
    obtain ⟨xs, e1, e2⟩ := e
    obtain ⟨a, ws, rfl, hq, dq, _⟩ := seq_ok rs r1 e1
    refine call_tuple_of pins sh σ H _ us Q I rv ⟨a, ws, rfl, ?_⟩
    rcases hq with hq | hq
    · exact .inl ⟨by rw [hK]; exact hq, fun l hl => by subst e2; exact q ι _ _ (Ext.upd hl) (rs.upd hl) (newT rs hl dq)⟩
    · exact .inr ⟨by rw [hK]; exact hq, fin _ _ e2.symm (.tup hq dq)⟩
  · obtain ⟨v, rfl, r1⟩ := r.one
    simp only [Option.map_eq_some_iff] at e
    obtain ⟨xs, e1, e2⟩ := e
    obtain ⟨a, ws, rfl, hq, dq, _⟩ := seq_ok rs r1 e1
    refine call_list_of pins sh σ H _ us Q I rv ⟨a, ws, rfl, by rw [hK]; exact hq, fun l hl => ?_⟩
    subst e2
    exact q ι _ _ (Ext.upd hl) (rs.upd hl) (newL rs hl dq)
  · obtain ⟨v, w, rfl, r1, r2⟩ := r.two
    cases r1.int_; cases r2.int_
    cases e
    exact call_min2 hc pins sh σ H _ us Q I rv ⟨_, _, rfl, fin _ _ rfl (.int _)⟩
  · obtain ⟨v, w, rfl, r1, r2⟩ := r.two
    cases r1.int_; cases r2.int_
    cases e
    exact call_max2 hc pins sh σ H _ us Q I rv ⟨_, _, rfl, fin _ _ rfl (.int _)⟩
  · obtain ⟨v, rfl, r1⟩ := r.one
    simp only [Option.map_eq_some_iff, Option.bind_eq_some_iff] at e
    obtain ⟨bs, ⟨xs, e1, e2⟩, e3⟩ := e
    obtain ⟨a, ws, rfl, hq, dq⟩ := lst_ok rs r1 e1
    rw [ints_ok dq e2] at hq
    exact cr_sum hc pins sh σ H _ us Q I rv ⟨a, bs, rfl, by rw [hK]; exact hq, fin _ _ e3.symm (.int _)⟩
  · -- sorted
    obtain ⟨v, rfl, r1⟩ := r.one
    simp only [Option.map_eq_some_iff, Option.bind_eq_some_iff] at e
    obtain ⟨bs, ⟨xs, e1, e2⟩, e3⟩ := e
    obtain ⟨a, ws, rfl, hq, dq⟩ := lst_ok rs r1 e1
    rw [ints_ok dq e2] at hq
    refine cr_sortedI pins sh σ H _ us Q I rv ⟨a, bs, rfl, by rw [hK]; exact hq, fun ns' p hp hs' hn => ?_⟩
    have same : ns' = bs.mergeSort fun a b => decide (a ≤ b) := by
      refine List.Perm.eq_of_pairwise (le := fun a b : Int => a ≤ b) (fun a b _ _ h1 h2 => Int.le_antisymm h1 h2) hs' ?_ (hp.trans (List.mergeSort_perm _ _).symm)
      refine (List.pairwise_mergeSort (le := fun a b : Int => decide (a ≤ b)) (fun a b c h1 h2 => ?_) (fun a b => ?_) bs).imp fun {a b} h => of_decide_eq_true h
      · have h1 := of_decide_eq_true h1; have h2 := of_decide_eq_true h2; exact decide_eq_true (Int.le_trans h1 h2)
      · rcases Int.le_total a b with h | h <;> simp [h]
    subst same
    have rr : ∀ js : List Int, RDs g ι H (js.map Fy.D.int) (js.map V.int) := fun js => by
      induction js with
      | nil => exact .nil
      | cons j js ih => exact .cons (.int j) ih
    rw [← e3] at q
    exact q ι _ _ (Ext.upd hn) (rs.upd hn) (newL rs hn (rr _))
  · cases e
end
end Fy
end
section
set_option Elab.async false
set_option linter.all false
set_option maxRecDepth 100000
set_option maxHeartbeats 1000000
/-! Fy6: targets, what is walked, the loops of comprehensions. -/
namespace Fy
open PySem PySem.Spec PyProof.Rows L2
section
variable {g : Glo} {ι : List Addr} {H : Hp} {s : Sto} {X : Cx} {W : WX}

/-! ### names -/
def visB (sc : Scope) (x : Str) : Bool :=
  match sc.names.lookup x with
  | some .local => true
  | some .cell => true
  | some .free => true
  | _ => false
theorem visB_ok {sc : Scope} {x : Str} (h : visB sc x = true) : Vis sc x := by
  unfold visB at h
  split at h
  · exact .inl (by assumption)
  · exact .inr (.inl (by assumption))
  · exact .inr (.inr (by assumption))
  · cases h
/-- a name that may be stored: fb tells whose cells are the frame's own -/
def locB (sc : Scope) (fb : Str → Bool) (x : Str) : Bool :=
  match sc.names.lookup x with
  | some .local => true
  | some .cell => fb x
  | _ => false
theorem locB_ok {sc : Scope} {fb : Str → Bool} {x : Str} (h : locB sc fb x = true) : Loc sc x ∧ (fb x = true ∨ sc.names.lookup x = some .local) := by
  unfold locB at h
  split at h
  · exact ⟨.inl (by assumption), .inr (by assumption)⟩
  · exact ⟨.inr (by assumption), .inl h⟩
  · cases h
def glB (sc : Scope) (x : Str) : Bool :=
  match sc.names.lookup x with
  | some .globalImplicit => true
  | _ => false
theorem glB_ok {X : Cx} {x : Str} (h : glB X.env.scope x = true) : Gl X x := by
  unfold glB at h
  split at h
  · assumption
  · cases h

/-! ### targets -/
mutual
def ckT (sc : Scope) (fb : Str → Bool) (N : List Str) : Tg → Expr → Bool
  | .nm i, .Name x _ => decide (N[i]? = some x) && locB sc fb x
  | .tp ts, .Tuple es _ _ => ckTs sc fb N ts es
  | _, _ => false
def ckTs (sc : Scope) (fb : Str → Bool) (N : List Str) : Tgs → List Expr → Bool
  | .nil, [] => true
  | .cons t ts, e :: es => ckT sc fb N t e && ckTs sc fb N ts es
  | _, _ => false
end
/-- what the evaluator's store of a target gives -/
def gE (g : Glo) (t : Tg) : TG := fun v σ H Q => ∃ ι ρ s d ρ', RE g ι H ρ σ ∧ RS g ι s H ∧ RD g ι H d v ∧ bindT t d ρ = some ρ' ∧ ∀ σ', RE g ι H ρ' σ' → (∀ vs, (∀ i ∈ t.slots, i ∈ vs) → L2.wipe σ' vs = L2.wipe σ vs) → Q σ' H
def gEs (g : Glo) (t : Tgs) : TGs := fun vs σ H Q => ∃ ι ρ s ds ρ', RE g ι H ρ σ ∧ RS g ι s H ∧ RDs g ι H ds vs ∧ bindTs t ds ρ = some ρ' ∧ ∀ σ', RE g ι H ρ' σ' → (∀ vs, (∀ i ∈ t.slots, i ∈ vs) → L2.wipe σ' vs = L2.wipe σ vs) → Q σ' H
theorem PG.imp {X : Cx} {e : Expr} {t t' : TG} (h : PG X e t) (f : ∀ v σ H Q, t' v σ H Q → t v σ H Q) : PG X e t' := ⟨fun pins s σ H v u Q I r w => h.run pins s σ H v u Q I r (f _ _ _ _ w)⟩
theorem PGs.imp {X : Cx} {e : List Expr} {t t' : TGs} (h : PGs X e t) (f : ∀ v σ H Q, t' v σ H Q → t v σ H Q) : PGs X e t' := ⟨fun pins s σ H v u Q I r w => h.run pins s σ H v u Q I r (f _ _ _ _ w)⟩
theorem ckTs_len {sc : Scope} {fb : Str → Bool} {N : List Str} : ∀ {ts : Tgs} {es : List Expr}, ckTs sc fb N ts es = true → es.length = ts.len
  | .nil, [], _ => rfl
  | .cons t ts, e :: es, h => by
    simp only [ckTs, Bool.and_eq_true] at h
    simp [Tgs.len, ckTs_len h.2]
  | .nil, _ :: _, h => by simp [ckTs] at h
  | .cons _ _, [], h => by simp [ckTs] at h
theorem each_len (env : PySem.Env) : ∀ es : List Expr, (assignEach es env).length = es.length
  | [] => rfl
  | e :: es => by cases e <;> simp [assignEach, each_len env es]
theorem ckT_star {sc : Scope} {fb : Str → Bool} {N : List Str} {t : Tg} {e : Expr} (h : ckT sc fb N t e = true) (es : List Expr) (env : PySem.Env) : assignEach (e :: es) env = (false, assign e env) :: assignEach es env := by
  cases t <;> cases e <;> first | rfl | (simp [ckT] at h)
theorem ckTs_star {sc : Scope} {fb : Str → Bool} {N : List Str} (env : PySem.Env) : ∀ {ts : Tgs} {es : List Expr}, ckTs sc fb N ts es = true → (assignEach es env).findIdx? (·.1) = none
  | .nil, [], _ => rfl
  | .cons t ts, e :: es, h => by
    simp only [ckTs, Bool.and_eq_true] at h
    rw [ckT_star h.1, List.findIdx?_cons]
    simp [ckTs_star env h.2]
  | .nil, _ :: _, h => by simp [ckTs] at h
  | .cons _ _, [], h => by simp [ckTs] at h
theorem wipe_set {σ : L2.St} {i : Nat} {v : V} : ∀ {vs : List Nat}, i ∈ vs → L2.wipe (σ.set i (some v)) vs = L2.wipe σ vs
  | [], h => by simp at h
  | j :: vs, h => by
    have comm : ∀ vs, L2.wipe (σ.set i (some v)) vs = (if i ∈ vs then L2.wipe σ vs else (L2.wipe σ vs).set i (some v)) := by
      intro vs
      induction vs with
      | nil => simp [L2.wipe]
      | cons k vs ih =>
        unfold L2.wipe
        rw [ih]
        by_cases hk : i ∈ vs
        · simp [hk]
        · by_cases e : i = k
          · subst e
            simp [hk, List.set_set]
          · simp only [hk, if_false, List.mem_cons, e, or_self]
            exact List.set_comm _ _ e
    rw [comm, if_pos h]
theorem wipe_get {σ : L2.St} : ∀ {vs : List Nat} {i : Nat}, i ∈ vs → i < σ.length → (L2.wipe σ vs)[i]? = some none
  | j :: vs, i, h, hl => by
    unfold L2.wipe
    by_cases e : j = i
    · subst e
      rw [List.getElem?_set_self (by rw [wipe_length]; exact hl)]
    · rw [List.getElem?_set_ne e]
      exact wipe_get ((List.mem_cons.mp h).resolve_left (fun q => e q.symm)) hl
theorem wipe_other {σ : L2.St} : ∀ {vs : List Nat} {i : Nat}, i ∉ vs → (L2.wipe σ vs)[i]? = σ[i]?
  | [], _, _ => rfl
  | j :: vs, i, h => by
    unfold L2.wipe
    rw [List.getElem?_set_ne (fun e => h (by rw [e]; exact List.mem_cons_self))]
    exact wipe_other fun m => h (List.mem_cons_of_mem _ m)
theorem wipe_wipe (σ : L2.St) (vs : List Nat) : L2.wipe (L2.wipe σ vs) vs = L2.wipe σ vs := by
  apply List.ext_getElem?
  intro i
  by_cases h : i ∈ vs
  · by_cases hl : i < σ.length
    · rw [wipe_get h hl, wipe_get h (by rw [wipe_length]; exact hl)]
    · rw [List.getElem?_eq_none (by rw [wipe_length, wipe_length]; omega), List.getElem?_eq_none (by rw [wipe_length]; omega)]
  · rw [wipe_other h]
mutual
theorem okT (hK : X.K = g.K) (hc : X.calm = true) (hN : X.N.Nodup) : ∀ (t : Tg) (e : Expr), ckT X.env.scope X.fn X.N t e = true → PG X e (gE g t)
  | .nm i, .Name x _, h => by
    simp only [ckT, Bool.and_eq_true, decide_eq_true_eq] at h
    obtain ⟨h1, h2⟩ := h
    obtain ⟨h3, h4⟩ := locB_ok h2
    refine PG.imp (pg_name hN h1 h3 h4) fun v σ H Q ⟨ι, ρ, s, d, ρ', re, rs, rd, hb, q⟩ => ?_
    simp only [bindT, Option.some.injEq] at hb
    subst hb
    exact q _ (re.set i rd) fun vs hv => wipe_set (hv i (by simp [Tg.slots]))
  | .tp ts, .Tuple es _ _, h => by
    have h' : ckTs X.env.scope X.fn X.N ts es = true := by simpa [ckT] using h
    refine PG.imp (pg_tup hc (okTs hK hc hN ts es h') (each_len _ _) (ckTs_star _ h')) fun v σ H Q ⟨ι, ρ, s, d, ρ', re, rs, rd, hb, q⟩ => ?_
    cases d with
    | tup xs =>
      simp only [bindT] at hb
      split at hb
      · rename_i hl
        cases rd with
        | @tup _ a vs hq dq => exact ⟨a, vs, rfl, by rw [hK]; exact hq, by rw [← dq.length, hl, ckTs_len h'], ι, ρ, s, xs, ρ', re, rs, dq, hb, fun σ' r w => q σ' r fun vs hv => w vs fun i hi => hv i (by simpa [Tg.slots] using hi)⟩
      · cases hb
    | _ => simp [bindT] at hb
  | .nm _, .Tuple _ _ _, h => by simp [ckT] at h
  | .tp _, .Name _ _, h => by simp [ckT] at h
theorem okTs (hK : X.K = g.K) (hc : X.calm = true) (hN : X.N.Nodup) : ∀ (t : Tgs) (e : List Expr), ckTs X.env.scope X.fn X.N t e = true → PGs X e (gEs g t)
  | .nil, [], h => PGs.imp pgs_nil fun v σ H Q ⟨ι, ρ, s, ds, ρ', re, rs, rd, hb, q⟩ => by
    cases ds with
    | nil => cases rd; simp [bindTs] at hb; subst hb; exact ⟨rfl, q _ re fun _ _ => rfl⟩
    | cons _ _ => simp [bindTs] at hb
  | .cons t ts, e :: es, h => by
    simp only [ckTs, Bool.and_eq_true] at h
    refine PGs.imp (pgs_cons (okT hK hc hN t e h.1) (okTs hK hc hN ts es h.2) (by rw [ckT_star h.1]; rfl)) fun v σ H Q ⟨ι, ρ, s, ds, ρ', re, rs, rd, hb, q⟩ => ?_
    cases ds with
    | nil => simp [bindTs] at hb
    | cons d ds =>
      cases rd with
      | cons r t =>
        simp only [bindTs, Option.bind_eq_some_iff] at hb
        obtain ⟨ρ1, h1, h2⟩ := hb
        exact ⟨_, _, rfl, ι, ρ, s, d, ρ1, re, rs, r, h1, fun σ1 re1 w1 => ⟨ι, ρ1, s, ds, ρ', re1, rs, t, h2, fun σ2 re2 w2 => q σ2 re2 fun vs hv => (w2 vs fun i hi => hv i (by simp [Tgs.slots, hi])).trans (w1 vs fun i hi => hv i (by simp [Tgs.slots, hi]))⟩⟩
  | .nil, _ :: _, h => by simp [ckTs] at h
  | .cons _ _, [], h => by simp [ckTs] at h
end

/-! ### what is walked -/
/-- J walks the items, as long as their lists stand -/
def Walks (g : Glo) (ι : List Addr) (H : Hp) (I : Items) (J : L2.It) : Prop :=
  ∀ ι1 H1 s1 i, Ext ι H ι1 H1 → RS g ι1 s1 H1 → stands I.src s1 = true →
    (∀ d, I.xs[i]? = some d → J.go i H1 ∧ ∀ x H2, J.yld i H1 x H2 → Ext ι1 H1 ι1 H2 ∧ RS g ι1 s1 H2 ∧ RD g ι1 H2 d x) ∧ (I.xs.length ≤ i → J.stop i H1)
theorem Walks.shift {ι1 : List Addr} {H1 : Hp} {I : Items} {J : L2.It} (w : Walks g ι H I J) (x : Ext ι H ι1 H1) : Walks g ι1 H1 I J := fun ι2 H2 s2 i x2 => w ι2 H2 s2 i (x.trans x2)
def rlI (g : Glo) : Rl Items L2.It := ⟨fun _ ι H I J => Walks g ι H I J, fun _ _ h => h⟩
def tI (g : Glo) (W : WX) (f : Env → Sto → R Items) : TI := fun σ H R => ∃ ι ρ s, RE g ι H ρ σ ∧ RS g ι s H ∧ Wp g W (rlI g) σ ι H (f ρ s) R

/-- where the items of a value are read, as long as they stand -/
theorem src_ok {t : T} {v : V} {I : Items} (rs : RS g ι s H) (r : RT g ι H t v) (e : itemsOf t s = some I) : ∃ a, v = .ref a ∧
    ((∃ xs, t = .v (.tup xs)) → ∀ ι1 H1 s1, Ext ι H ι1 H1 → RS g ι1 s1 H1 → stands I.src s1 = true → ∃ vs, SqT g.K H1 a vs ∧ RDs g ι1 H1 I.xs vs) ∧
    ((∀ xs, t ≠ .v (.tup xs)) → ∀ ι1 H1 s1, Ext ι H ι1 H1 → RS g ι1 s1 H1 → stands I.src s1 = true → ∃ vs, SqL g.K H1 a vs ∧ RDs g ι1 H1 I.xs vs) := by
  cases r with
  | @l xs a vs h n r =>
    simp only [itemsOf, Option.some.injEq] at e
    subst e
    exact ⟨a, rfl, fun ⟨_, q⟩ => (nomatch q), fun _ ι1 H1 s1 x rs1 _ => ⟨vs, .inl (.inl (x.keep _ _ h n rfl)), r.ext rs x⟩⟩
  | @v d v r =>
    cases r with
    | @tup xs a vs h r =>
      simp only [itemsOf, Option.some.injEq] at e
      subst e
      exact ⟨a, rfl, fun _ ι1 H1 s1 x rs1 _ => ⟨vs, SqT.ext rs x h, r.ext rs x⟩, fun q => absurd rfl (q xs)⟩
    | @fro xs a vs h r =>
      simp only [itemsOf, Option.some.injEq] at e
      subst e
      exact ⟨a, rfl, fun ⟨_, q⟩ => (nomatch q), fun _ ι1 H1 s1 x rs1 _ => by
        cases RD.ext rs x (RD.fro h r) with
        | fro h' r' => exact ⟨_, h'.list, r'⟩⟩
    | @loc n a h =>
      simp only [itemsOf, Option.map_eq_some_iff] at e
      obtain ⟨xs, e1, rfl⟩ := e
      refine ⟨a, rfl, fun ⟨_, q⟩ => (nomatch q), fun _ ι1 H1 s1 x rs1 st => ?_⟩
      have st' : lstAt n s1 = some xs := by simpa [stands] using st
      obtain ⟨b, vs, eb, hq, dq⟩ := lst_ok rs1 (RT.v (RD.loc (x.get h))) (show lstOf (.v (.loc n)) s1 = some xs from st')
      cases eb
      exact ⟨vs, hq, dq⟩
    | _ => simp [itemsOf] at e
theorem walks_list {a : Addr} {I : Items} (h : ∀ ι1 H1 s1, Ext ι H ι1 H1 → RS g ι1 s1 H1 → stands I.src s1 = true → ∃ vs, SqL g.K H1 a vs ∧ RDs g ι1 H1 I.xs vs) : Walks g ι H I (Itl g.K a) := fun ι1 H1 s1 i x rs st => by
  obtain ⟨vs, hq, dq⟩ := h ι1 H1 s1 x rs st
  refine ⟨fun d hd => ?_, fun hi => ⟨vs, hq, by rw [← dq.length]; exact hi⟩⟩
  obtain ⟨w, e, rw'⟩ := dq.get hd
  refine ⟨⟨vs, w, hq, e⟩, fun y H2 ⟨e2, e3⟩ => ?_⟩
  subst e2
  have ey : y = w := by
    have z := e3 vs hq
    rw [e] at z; exact (Option.some.inj z).symm
  subst ey
  exact ⟨Ext.refl, rs, rw'⟩
theorem walks_tup {a : Addr} {I : Items} (h : ∀ ι1 H1 s1, Ext ι H ι1 H1 → RS g ι1 s1 H1 → stands I.src s1 = true → ∃ vs, SqT g.K H1 a vs ∧ RDs g ι1 H1 I.xs vs) : Walks g ι H I (Itt g.K a) := fun ι1 H1 s1 i x rs st => by
  obtain ⟨vs, hq, dq⟩ := h ι1 H1 s1 x rs st
  refine ⟨fun d hd => ?_, fun hi => ⟨vs, hq, by rw [← dq.length]; exact hi⟩⟩
  obtain ⟨w, e, rw'⟩ := dq.get hd
  refine ⟨⟨vs, w, hq, e⟩, fun y H2 ⟨e2, e3⟩ => ?_⟩
  subst e2
  have ey : y = w := by
    have z := e3 vs hq
    rw [e] at z; exact (Option.some.inj z).symm
  subst ey
  exact ⟨Ext.refl, rs, rw'⟩
theorem walks_rng {lo hi : Int} {I : Items} {n : Nat} (e : rangeD lo hi = some I) (hn : n = (hi - lo).toNat) : Walks g ι H I (Itr lo n) := fun ι1 H1 s1 i x rs st => by
  unfold rangeD at e
  split at e
  · cases e
    subst hn
    refine ⟨fun d hd => ?_, fun hend => ?_⟩
    · simp only [List.getElem?_map, Option.map_eq_some_iff] at hd
      obtain ⟨j, hj, rfl⟩ := hd
      obtain ⟨hlt, ej⟩ := List.getElem?_eq_some_iff.mp hj
      simp only [List.length_range] at hlt
      simp only [List.getElem_range] at ej
      subst ej
      refine ⟨hlt, fun y H2 ⟨e2, e3⟩ => ?_⟩
      subst e2 e3
      exact ⟨Ext.refl, rs, .int _⟩
    · rw [List.length_map, List.length_range] at hend
      exact hend
  · cases e
theorem pairs_get {xs ys : List D} {d : D} {i : Nat} (h : ((xs.zip ys).map fun p => D.tup [p.1, p.2])[i]? = some d) : ∃ x y, xs[i]? = some x ∧ ys[i]? = some y ∧ d = .tup [x, y] := by
  simp only [List.getElem?_map, Option.map_eq_some_iff] at h
  obtain ⟨⟨x, y⟩, h1, rfl⟩ := h
  obtain ⟨h2, h3⟩ := List.getElem?_zip_eq_some.mp h1
  exact ⟨x, y, h2, h3, rfl⟩
theorem pairs_len {xs ys : List D} {i : Nat} (h : ((xs.zip ys).map fun p => D.tup [p.1, p.2]).length ≤ i) : xs.length ≤ i ∨ ys.length ≤ i := by
  simp only [List.length_map, List.length_zip] at h
  omega
/-- a pair just laid -/
theorem pair_ok {p : Addr} {x y : D} {v w : V} (rs : RS g ι s H) (hp : H p = none) (r1 : RD g ι H x v) (r2 : RD g ι H y w) :
    Ext ι H ι (L2.upd H p (.tup [v, w])) ∧ RS g ι s (L2.upd H p (.tup [v, w])) ∧ RD g ι (L2.upd H p (.tup [v, w])) (.tup [x, y]) (.ref p) :=
  ⟨Ext.upd hp, rs.upd hp, .tup (.inl (.inl upd_same)) (.cons (r1.ext rs (Ext.upd hp)) (.cons (r2.ext rs (Ext.upd hp)) .nil))⟩
theorem walks_zipL {a b : Addr} {xs ys : List D} {src : List (Nat × List D)}
    (h : ∀ ι1 H1 s1, Ext ι H ι1 H1 → RS g ι1 s1 H1 → stands src s1 = true → ∃ vs ws, SqL g.K H1 a vs ∧ RDs g ι1 H1 xs vs ∧ SqL g.K H1 b ws ∧ RDs g ι1 H1 ys ws) :
    Walks g ι H ⟨(xs.zip ys).map fun p => .tup [p.1, p.2], src⟩ (Itz g.K a b) := fun ι1 H1 s1 i x rs st => by
  obtain ⟨vs, ws, h1, d1, h2, d2⟩ := h ι1 H1 s1 x rs st
  refine ⟨fun d hd => ?_, fun hi => ⟨vs, ws, h1, h2, by rw [← d1.length, ← d2.length]; exact pairs_len hi⟩⟩
  obtain ⟨x', y', g1, g2, rfl⟩ := pairs_get hd
  obtain ⟨v, e1, r1⟩ := d1.get g1
  obtain ⟨w, e2, r2⟩ := d2.get g2
  refine ⟨⟨vs, ws, v, w, h1, h2, e1, e2⟩, fun z H2 ⟨T', v', w', e3, e4, e5, e6, e7⟩ => ?_⟩
  have ev : v' = v := by
    have z := e6 vs h1
    rw [e1] at z; exact (Option.some.inj z).symm
  have ew : w' = w := by
    have z := e7 ws h2
    rw [e2] at z; exact (Option.some.inj z).symm
  subst e3 e5 ev ew
  exact pair_ok rs e4 r1 r2
theorem walks_zipT {a b : Addr} {xs ys : List D} {src : List (Nat × List D)}
    (h : ∀ ι1 H1 s1, Ext ι H ι1 H1 → RS g ι1 s1 H1 → stands src s1 = true → ∃ vs ws, SqT g.K H1 a vs ∧ RDs g ι1 H1 xs vs ∧ SqT g.K H1 b ws ∧ RDs g ι1 H1 ys ws) :
    Walks g ι H ⟨(xs.zip ys).map fun p => .tup [p.1, p.2], src⟩ (RZ.ItzT g.K a b) := fun ι1 H1 s1 i x rs st => by
  obtain ⟨vs, ws, h1, d1, h2, d2⟩ := h ι1 H1 s1 x rs st
  refine ⟨fun d hd => ?_, fun hi => ⟨vs, ws, h1, h2, by rw [← d1.length, ← d2.length]; exact pairs_len hi⟩⟩
  obtain ⟨x', y', g1, g2, rfl⟩ := pairs_get hd
  obtain ⟨v, e1, r1⟩ := d1.get g1
  obtain ⟨w, e2, r2⟩ := d2.get g2
  refine ⟨⟨vs, ws, v, w, h1, h2, e1, e2⟩, fun z H2 ⟨T', v', w', e3, e4, e5, e6, e7⟩ => ?_⟩
  have ev : v' = v := by
    have z := e6 vs h1
    rw [e1] at z; exact (Option.some.inj z).symm
  have ew : w' = w := by
    have z := e7 ws h2
    rw [e2] at z; exact (Option.some.inj z).symm
  subst e3 e5 ev ew
  exact pair_ok rs e4 r1 r2
theorem walks_enum {a : Addr} {I : Items} (h : ∀ ι1 H1 s1, Ext ι H ι1 H1 → RS g ι1 s1 H1 → stands I.src s1 = true → ∃ vs, SqL g.K H1 a vs ∧ RDs g ι1 H1 I.xs vs) :
    Walks g ι H ⟨I.xs.zipIdx.map fun p => .tup [.int (p.2 : Nat), p.1], I.src⟩ (Ite g.K a) := fun ι1 H1 s1 i x rs st => by
  obtain ⟨vs, h1, d1⟩ := h ι1 H1 s1 x rs st
  refine ⟨fun d hd => ?_, fun hi => ⟨vs, h1, by rw [← d1.length]; simpa using hi⟩⟩
  simp only [List.getElem?_map, Option.map_eq_some_iff, List.getElem?_zipIdx] at hd
  obtain ⟨⟨y, k⟩, ⟨y', g1, e0⟩, rfl⟩ := hd
  simp only [Nat.zero_add, Prod.mk.injEq] at e0
  obtain ⟨rfl, rfl⟩ := e0
  obtain ⟨w, e1, r1⟩ := d1.get g1
  refine ⟨⟨vs, w, h1, e1⟩, fun z H2 ⟨T', w', e3, e4, e5, e6⟩ => ?_⟩
  have ew : w' = w := by
    have z := e6 vs h1
    rw [e1] at z; exact (Option.some.inj z).symm
  subst e3 e5 ew
  exact pair_ok rs e4 (.int _) r1

/-- a list or a tuple, walked -/
theorem pi_seq {l tg : Expr} {tl : TE} (hl : PE X l tl) : PI X tg l (fun σ H R => tl σ H fun x H1 => ∃ a, x = .ref a ∧ (((∃ xs, SqL X.K H1 a xs) ∧ R (Itl X.K a) H1) ∨ ((∃ xs, SqT X.K H1 a xs) ∧ R (Itt X.K a) H1))) := by
  constructor
  intro pins s σ H R I h
  apply thn (hl.run pins s σ H _ I h)
  rintro v s1 ⟨x, H1, I1, r1, a, e, q⟩
  subst e
  cases r1
  have fresh : ∀ b ∈ [s1.heap.objs.size], FpOk X pins H1 b := fun b hb => by
    rw [List.mem_singleton.mp hb]
    exact I1.fpOk (Nat.le_refl _) (I1.hok.fresh (Nat.le_refl _))
  rcases q with ⟨⟨xs, hq⟩, q⟩ | ⟨⟨xs, hq⟩, q⟩
  · obtain ⟨its, rv, p, hz⟩ := I1.list hq
    apply wpAny_pyIter_list p.isList
    exact ⟨_, [s1.heap.objs.size], _, _, H1, rfl, I1.kept (t' := s1.toks) (fun b o e => Heap.get?_push_of_some _ e), turn_list a _, ⟨_, Heap.get?_push_size _ rfl, rfl, rfl⟩, fresh, q⟩
  · obtain ⟨its, rv, p, hz⟩ := I1.tuple hq
    apply wpAny_pyIter_tuple (show s1.heap.IsTuple a its.toArray from p)
    exact ⟨_, [s1.heap.objs.size], _, _, H1, rfl, I1.kept (t' := s1.toks) (fun b o e => Heap.get?_push_of_some _ e), turn_tuple a _, ⟨_, Heap.get?_push_size _ rfl, rfl, rfl⟩, fresh, q⟩
end
end Fy
end
section
set_option Elab.async false
set_option linter.all false
set_option maxRecDepth 100000
set_option maxHeartbeats 2000000
/-! Fz1: the __init__ of an own exception class: super().__init__(at); self.at = at. -/
namespace Fy
open PySem PySem.Spec PyProof.Rows L2
abbrev veI : String := "ValueError.__init__"
/-- what the written part says of such a class and of its __init__ -/
structure XcC (P : Program) (K : PySem.W.Frag) (mg : Str → Option Value) (C fI : Addr) (qual : Str) (params : Arguments) (body : List Stmt) (scope : Scope) (dV kV doc pm cdv ct : Value) (an : Option Addr) : Prop where
  oex : OexC K C
  fn : ∃ oc od osl cc, K.lookup fI = some ⟨oc, od, .func (PySem.W.ksFn "__init__" qual params body scope dV kV doc pm an cdv ct cc), osl⟩ ∧
    ∃ cl cld csl, K.lookup cc = some ⟨cl, cld, .cell (some (.ref C)), csl⟩
  code : PySem.W.codeIn K cdv qual = true
  codeO : ∃ cda ccl cdd vs ccs file tf, cdv = .ref cda ∧ K.lookup cda = some ⟨ccl, cdd, .fields vs, ccs⟩ ∧ vs[2]? = some (.str file tf) ∧ ((P.main.file : Str) == file) = true
  par : ∃ ar, (params.posonlyargs ++ params.args).head? = some ar ∧ ar.arg = "self"
  kind : scope.kind = .function
  co : scope.isCoroutine = false
  gen : scope.isGenerator = false
  cells : ∀ x ∈ scope.names, x.2 ≠ .cell
  nSelf : scope.names.lookup ("self" : Str) = some .local
  nAt : scope.names.lookup ("at" : Str) = some .local
  nSup : scope.names.lookup ("super" : Str) = some .globalImplicit
  nCls : scope.names.lookup ("__class__" : Str) = some .free
  top : (P.main.scope.names.lookup ("super" : Str)).isSome = false
  mgS : mg "super" = none
  any : PySem.W.nsIn K cStatics "thirdparty.any" = some none
  sup : PySem.W.ks_superIn K C C "__init__" = some (some (.builtin veI))
  sub : PySem.W.subIn K (.ref C) (.type "ValueError") = some true
  mro : PySem.W.mroIn K C (.ref C) = some true
  noAt : PySem.W.findIn K (.ref C) "at" = some none
  text : ∃ (p1 p2 p3 p4 p5 p6 p7 p8 p9 p10 : Pos), (∀ q L f cd cc, ∃ pl : Sem Bool, eval (.Call (.Attribute (.Call (.Name "super" p1) [] [] p2) "__init__" p3) [.Name "at" p4] [] p5) (PySem.W.ksEnv q scope L f cd cc) = (do
      let ov ← attributeBase (.Call (.Name "super" p1) [] [] p2) "__init__" (PySem.W.ksEnv q scope L f cd cc) (eval (.Call (.Name "super" p1) [] [] p2) (PySem.W.ksEnv q scope L f cd cc))
      standAt p3.atName
      let (m, first) ← holding [ov] (getMethod ov "__init__" pl)
      callWith p5 m first (backTo p5 (starEach [.Name "at" p4] (PySem.W.ksEnv q scope L f cd cc))) [])) ∧ body = [.Expr (.Call (.Attribute (.Call (.Name "super" p1) [] [] p2) "__init__" p3) [.Name "at" p4] [] p5) p6, .Assign [.Attribute (.Name "self" p7) "at" p8] (.Name "at" p9) p10]
/-- what it does -/
def spXI (C : Addr) : Sp := fun vs H Q _ => ∃ a y, vs = [.ref a, y] ∧ H a = some (exo a C none) ∧ ∀ dx, H dx = none → dx ≠ a → Q .non (upd (upd H dx (exd dx [("at", y)])) a (exo a C (some dx)))
section
variable {P : Program} {w : World} {K : PySem.W.Frag} {mg : Str → Option Value} {base : Heap} {C fI : Addr} {qual : Str} {params : Arguments} {body : List Stmt} {scope : Scope} {dV kV doc pm cdv ct : Value} {an : Option Addr}
theorem veFacts : PySem.W.KxsFacts "ValueError" veI := PySem.W.kxs_ValueError
/-- the wrapper of ValueError.__init__ called -/
theorem call_wrap {A : Around} {E : Value → Shared → Prop} {s : Shared} {u e t0 : Addr} {rest : List Value} {Q : Value → Shared → Prop} (T : OexC K C) (X : K.In s.heap)
    (hu : s.heap.get? u = some (PySem.W.kxs_mw veI e)) (he : s.heap.get? e = some (PySem.HandSPX.excO C t0)) (hl : rest.length ≤ sizeLine)
    (hq : ∀ h' t1, (∀ b o, b ≠ e → s.heap.get? b = some o → h'.get? b = some o) → h'.get? e = some (PySem.HandSPX.excO C t1) → Q .none { s with heap := h' }) : wpAny (model P w) A (call (.ref u) rest) Q E s := by
  obtain ⟨nm, q, N, bs, bm, sn, sub, ab, col, dd, k0, k1, k2, k3, k5, hC, hbm⟩ := T.cls
  have hC := X _ _ hC
  obtain ⟨h, g, d, t, os⟩ := s
  refine wpAny_call (codeAny_of_tree ?_)
  show wpAny _ A.in1 (callAny (.ref u) ⟨rest, []⟩) _ _ _
  simp only [callAny]
  refine wpAny_bind (wpAny_load hu ?_)
  have em : (Value.type "method-wrapper" == Value.type "method" || Value.type "method-wrapper" == Value.type "builtin_function_or_method" || Value.type "method-wrapper" == Value.type "method-wrapper") = true := by decide
  simp only [PySem.W.kxs_mw, em, if_true]
  refine PySem.W.KFB.if_so (by decide) ?_
  refine wpAny_bind (PySem.W.check_bound_init PySem.F.excBase_ValueError.toExcCallFacts hC he rfl ?_)
  refine wpAny_bind (wpAny_pure (wpAny_pure ?_))
  refine ⟨Code.quiet_builtin _ (by decide +kernel), codeAny_builtin PySem.F.excBase_ValueError.initEntry ?_⟩
  rw [Around.under_plainId PySem.F.excBase_ValueError.init.plain _]
  wp_walk
  refine hq _ h.objs.size (fun b o hb ho => ?_) ?_
  · rw [Heap.get?_update_other _ _ (Ne.symm hb)]
    exact Heap.get?_push_of_some _ ho
  · rw [Heap.get?_update_self _ (Heap.get?_push_of_some _ he) rfl]
    rfl
theorem xc_init {k : Nat} (T : XcC P K mg C fI qual params body scope dV kV doc pm cdv ct an) :
    ∃ fd, (∃ oc od osl, K.lookup fI = some ⟨oc, od, .func fd, osl⟩) ∧ (∃ cc, fd = PySem.W.ksFn "__init__" qual params body scope dV kV doc pm an cdv ct cc) ∧ FnOk P w K mg base (L2.CX P w) (k + 1) fI fd ["self", "at"] (spXI C) := by
  obtain ⟨oc, od, osl, cc, lk, cl, cld, csl, lcell⟩ := T.fn
  refine ⟨_, ⟨oc, od, osl, lk⟩, ⟨cc, rfl⟩, fun vs H Q E ⟨a, y, e, _⟩ => by rw [e]; rfl, fun A outer s H args us vs Q E hr e0 hb r hsp => ?_⟩
  obtain ⟨a, y, rfl, ha, hq⟩ := hsp
  cases r with
  | @cons _ u0 _ ur ra rw' =>
  cases rw' with
  | @cons _ u1 _ ur ry rw' =>
  cases rw'
  obtain rfl : u0 = Value.ref a := ra
  have KX : K.In s.heap := e0.mod.kin.keeps fun b o e => (e0.bs b o e).1
  have lim : s.heap.NoLimit := e0.mod.nolimit.keeps fun b o e => (e0.bs b o e).1
  obtain ⟨t1, ho⟩ := exo_at e0.hok ha
  obtain ⟨nm, q, N, bs, bm, sn, sub, ab, col, dd, k0, k1, k2, k3, k5, hC, hbm⟩ := T.oex.cls
  have hcl : PySem.W.clsIn K C = some { name := nm, bases := bs, mro := .ref C :: bm, ns := N, qualname := q, hasDict := true, slotNames := sn, subclasses := sub, abstract := ab, collection := col, hasDel := false } := by unfold PySem.W.clsIn; rw [hC] <;> rfl
  obtain ⟨cda, ccl, cdd, cvs, ccs, file, tf, rfl, lcode, hvs, hfile⟩ := T.codeO
  obtain ⟨ar, hpar, har⟩ := T.par
  obtain ⟨p1, p2, p3, p4, p5, p6, p7, p8, p9, p10, hev, rfl⟩ := T.text
  refine PySem.ks_codeAny_call_defAt (binds := [("self", .ref a), ("at", u1)]) hr.depth (KX _ _ lk) rfl lim (PySem.W.codeRec_of KX T.code) rfl hb T.cells (fun x hx => ?_) (fun h0 hns hk => ?_) T.co T.gen T.kind
  · simp only [List.mem_cons, List.not_mem_nil, or_false] at hx
    rcases hx with rfl | rfl
    · exact T.nSelf
    · exact T.nAt
  have K0 : K.In h0 := KX.keeps hk
  have ho0 := hk _ _ ho
  have aL : a ≠ s.heap.objs.size := Nat.ne_of_lt (Heap.lt_size ho)
  obtain ⟨pl, hev⟩ := hev qual s.heap.objs.size fI (.ref cda) cc
  have sw : ∀ tg, swapsWith (.Name "at" p9) tg p10.line (PySem.W.ksEnv qual scope s.heap.objs.size fI (.ref cda) cc) = pure false := fun _ => rfl
  refine PySem.ks_wpAt_execs_cons (PySem.ks_wpAt_Expr_any (PySem.ks_wpAt_MethodCall ?_ hev) ?_ ?_)
  · refine PySem.ks_wpAt_super_base (of := ⟨oc, od, _, osl⟩) (oc := ⟨ccl, cdd, _, ccs⟩) T.nSup T.nCls (by decide) rfl (K0 _ _ lk) rfl hpar rfl (K0 _ _ lcode) rfl hvs hfile T.top ?_
    have kb : ∀ b o, base.get? b = some o → h0.get? b = some o := fun b o e => hk _ _ (e0.bs b o e).1
    obtain ⟨mb, hm1, hm2⟩ := e0.mod.blt
    refine PySem.W.ks_loadName_global T.kind T.nSup (Calls.loadGlobal_builtin (e0.mod.glob.keeps kb) T.mgS (hm1.keeps kb) ((hm2 _ (by decide)).trans (by kernel_rfl : bootBuiltins "super" = some (.type "super"))) ⟨rfl, ?_⟩)
    refine wpAny_loadName_free T.kind T.nCls rfl ⟨_, K0 _ _ lcell, rfl⟩ ?_
    rw [har]
    refine wpAny_loadName_local T.kind T.nSelf hns rfl ?_
    have hCo := K0 _ _ hC
    refine PySem.ks_wpAny_isType_cls hCo rfl ⟨rfl, ?_⟩
    refine PySem.ks_wpAny_call_super hCo rfl ho0 rfl (fun c e => nomatch e) (PySem.W.looks_mroIn K0 T.mro) (fun h1 hso k1 => ?_)
    have K1 : K.In h1 := K0.keeps k1
    have ha1 := k1 _ _ ho0
    have J1 : PySem.W.InstAt h1 a { cls := .ref C, data := .fields #[.ref t1, .none, .none, .none, .bool false, .none] } C none := ⟨ha1, rfl, rfl, trivial⟩
    have hsup : PySem.W.alongIn K "__init__" (((Value.ref C :: bm).dropWhile (· != .ref C)).drop 1) = some (some (.builtin veI)) := by
      have z := T.sup
      unfold PySem.W.ks_superIn at z
      rw [hcl] at z
      exact z
    have aC : a ≠ C := PySem.W.ks_ne K1 J1 hcl
    refine PySem.W.kxs_getMethod veFacts hso (PySem.W.looks_opaque K1 T.any) (l₀ := .ref C :: bm) ((PySem.W.looks_clsIn K1 hcl).andThen .now) rfl K1 hsup (J1.type.andThen (PySem.W.looks_subIn K1 T.sub)) aC (by decide) ?_
    have k2 : ∀ b o, h1.get? b = some o → (h1.push (PySem.W.kxs_mw veI a)).get? b = some o := fun b o e => Heap.get?_push_of_some _ e
    have hu : (h1.push (PySem.W.kxs_mw veI a)).get? h1.objs.size = some (PySem.W.kxs_mw veI a) := Heap.get?_push_at rfl rfl
    have hLL : ∃ oL, h0.get? s.heap.objs.size = some oL := by
      obtain ⟨oL, _, _, e, _⟩ := hns
      exact ⟨oL, e⟩
    obtain ⟨oL, hLL⟩ := hLL
    have N1 : News s.heap s.heap.objs.size (h1.push (PySem.W.kxs_mw veI a)) [(h1.objs.size, PySem.W.kxs_mw veI a)] := by
      intro p hp
      simp only [List.mem_cons, List.not_mem_nil, or_false] at hp
      subst hp
      refine ⟨hu, fun z => ?_, ?_⟩
      · have y1 := Heap.lt_size (k1 _ _ hLL)
        rw [show h1.objs.size = s.heap.objs.size from z] at y1
        exact absurd y1 (Nat.lt_irrefl _)
      · cases z : s.heap.get? h1.objs.size with
        | none => rfl
        | some o => exact absurd (Heap.lt_size (k1 _ _ (hk _ _ z))) (Nat.lt_irrefl _)
    refine PySem.W.kxs_callWith1 N1 (.head _) ?_
    refine PyProof.Rows.spliced_more ?_
    have k3 : ∀ b o, h0.get? b = some o → (h1.push (PySem.W.kxs_mw veI a)).get? b = some o := fun b o e => k2 _ _ (k1 _ _ e)
    have hns3 := hns.keeps k3
    refine wpAny_Name (wpAny_loadName_local T.kind T.nAt hns3 rfl ?_) (by decide)
    refine PyProof.Rows.spliced_none ⟨hu, ?_⟩
    refine call_wrap T.oex (K0.keeps k3) hu (k3 _ _ ho0) (by rw [sizeLine_eq]; exact (by decide : (1 : Nat) ≤ 16777216)) fun h4 t4 k4 ha4 => ?_
    -- behind super().__init__(at)
    have k40 : ∀ b o, b ≠ a → h0.get? b = some o → h4.get? b = some o := fun b o hb e => k4 b o hb (k3 _ _ e)
    refine PySem.ks_wpAt_execs_cons (wpAt_of_wpAny (plainObj_wpAny_Assign_Attribute ?_ (sw _)))
    have ns4 := hns3.at fun o e => k4 _ o aL.symm e
    refine wpAny_Name (wpAny_loadName_local T.kind T.nAt ns4 rfl ?_) (by decide)
    refine wpAny_Name (wpAny_loadName_local T.kind T.nSelf ns4 rfl ?_) (by decide)
    have aK : ∀ o, K.lookup a ≠ some o := fun o e => by
      have z := e0.bs a o (e0.mod.kin _ _ e)
      rw [ha] at z
      exact absurd z.2 (by simp)
    have K4 : K.In h4 := fun b o e => k40 b o (fun z => aK o (z ▸ e)) (K0 _ _ e)
    refine PySem.W.set_plain K4 (ox := PySem.HandSPX.excO C t4) (od := none) ⟨ha4, rfl, rfl, trivial⟩ T.oex.sa ?_
    refine PySem.HandSPX.exc_osa K4 ha4 hcl (show PySem.HandSPX.refsVE (.ref C :: bm) = true from hbm) rfl T.noAt (fun h5 tk5 dx k5 dn dne hx5 hn5 => ?_)
    refine wpAt_of_wpAny (wpAny_execs_nil ?_)
    have kk : ∀ b o, b ≠ a → s.heap.get? b = some o → h5.get? b = some o := fun b o hb e => k5 b o hb (k40 b o hb (hk _ _ e))
    have lts : ∀ {b : Addr} {o : Obj}, s.heap.get? b = some o → b < dx := fun {b o} e => by
      by_cases hb : b = a
      · rw [hb]
        exact Nat.lt_of_lt_of_le (Heap.lt_size ha4) dn
      · exact Nat.lt_of_lt_of_le (Heap.lt_size (k40 b o hb (hk _ _ e))) dn
    have hnd : H dx = none := by
      cases z : H dx with
      | none => rfl
      | some u =>
        obtain ⟨ob, z1⟩ := objOk_get (e0.hok dx u z)
        exact absurd (lts z1) (Nat.lt_irrefl _)
    have na : ∀ {b : Addr}, H b = none → b ≠ a := fun {b} n z => by
      rw [z, ha] at n
      cases n
    refine ⟨.non, upd (upd H dx (exd dx [("at", y)])) a (exo a C (some dx)), rfl, e0.bare, ?_, fun b o q => ?_, rfl, hq dx hnd dne⟩
    · exact {
        keep := fun b o q n _ _ => kk b o (na n) q
        slot := fun b o q n _ _ => ⟨o.slots, kk b o (na n) q⟩
        free := fun b o q n _ => by rw [upd_ne (na n), upd_ne (Nat.ne_of_lt (lts q))]; exact n
        there := fun b o q _ => by
          by_cases hb : b = a
          · exact ⟨_, by rw [hb]; exact hx5⟩
          · exact ⟨o, kk b o hb q⟩
        tups := fun b xs q => by rw [upd_ne (at_ne ha q exo_tup), upd_ne (ne_of_none q hnd)]; exact q
        frzs := fun b o v q => by rw [upd_ne (at_ne ha q exo_frz), upd_ne (ne_of_none q hnd)]; exact q
        tbls := fun b ps q => ⟨#[], by rw [upd_ne (at_ne ha q exo_tbl), upd_ne (ne_of_none q hnd), q]; simp⟩ }
    · by_cases hb : b = a
      · subst hb
        rw [upd_same] at q
        cases q
        exact exo_ok hx5
      · rw [upd_ne hb] at q
        by_cases hd : b = dx
        · subst hd
          rw [upd_same] at q
          cases q
          exact exd_ok hn5 (relO_put (fs := []) ry fun g => True.intro)
        · rw [upd_ne hd] at q
          exact (e0.hok b o q).stay (fun c v hc z => kk c v (by
              rcases hc with hc | hc
              · rw [hc]; exact hb
              · exact at_ne ha hc exo_own) z)
            (fun c hc => by rw [upd_ne (at_ne ha hc exo_own), upd_ne (ne_of_none hc hnd)]; exact hc) fun c xs hc => by rw [upd_ne (at_ne ha hc exo_tup), upd_ne (ne_of_none hc hnd)]; exact hc
  · show ((scope.kind == .module) && _) = false
    rw [T.kind]
    rfl
  · rfl
end
end Fy
end
section
set_option Elab.async false
set_option linter.all false
set_option maxRecDepth 100000
set_option maxHeartbeats 1000000
/-! Fz0: what is needed ahead: defs that tell what they heard, makers of lambdas. -/
namespace Fy
open PySem PySem.Spec PyProof.Rows L2 LamX
/-- a def that tells what it heard -/
structure HdOk (g : Glo) (mg : Str → Option Value) (x c : Str) : Prop where
  ok : ∃ (fa CS : Addr) (pg : Arguments) (sg : Scope) (dV kV doc pm cdv ct oc : Value) (an od : Option Addr) (osl : Array (Option Value)) (Ng : List Str) (a n : Str) (i j : Nat) (p1 p2 p3 p4 p5 p6 p7 p8 p9 p10 p11 : Pos),
    mg x = some (.ref fa) ∧ PySem.W.keepIn g.K (.ref fa) = true ∧
    g.K.lookup fa = some ⟨oc, od, .func (PySem.W.fnOf x x pg [.Try [.Expr (.Call (.Name a p1) [] [] p2) p3, .Return (some (.Constant .none j p4)) p5] [.ExceptHandler (some (.Name c p6)) (some n) [.Return (some (.Attribute (.Name n p7) "at" p8)) p9] p10] [] [] p11] sg dV kV doc pm an cdv ct), osl⟩ ∧
    PySem.W.codeIn g.K cdv x = true ∧ L2.Binds g.K (PySem.W.fnOf x x pg [.Try [.Expr (.Call (.Name a p1) [] [] p2) p3, .Return (some (.Constant .none j p4)) p5] [.ExceptHandler (some (.Name c p6)) (some n) [.Return (some (.Attribute (.Name n p7) "at" p8)) p9] p10] [] [] p11] sg dV kV doc pm an cdv ct) [a] [] ∧
    FnScope Ng [a] sg ∧ Ng[0]? = some a ∧ Vis sg a ∧ Ng[i]? = some n ∧ sg.names.lookup n = some .local ∧ sg.names.lookup c = some .globalImplicit ∧ mg c = some (.ref CS) ∧ g.ga c = CS ∧ XfC g.K CS ∧ PySem.W.findIn g.K (.ref CS) "at" = some none ∧
    (c == ("__debug__" : Str)) = false ∧ (n == ("__debug__" : Str)) = false ∧ (n == ("__classdict__" : Str)) = false ∧ (a == ("__debug__" : Str)) = false ∧ (a == ("__classdict__" : Str)) = false ∧ (x == ("__debug__" : Str)) = false ∧
    PySem.W.exmOne g.K (.ref CS) (.ref CS) = some true ∧ ∀ f : Addr, (L2.start Ng [V.ref f])[0]? = some (some (V.ref f))
/-- what the maker of a lambda has -/
structure Deep (g : Glo) (k : Nat) (X : Cx) : Prop where
  room : Room (3 * k + 4) X.A
  tab : ∃ c P, TabB X.base X.mg c P ∧ X.env.code = .ref c ∧ (P, X.env.qual ++ "<lambda>") ∈ g.T ∧ ∀ p ∈ g.T, p.1 = P → p.2 = X.env.qual ++ "<lambda>"
def noPar : Arguments → Bool
  | ⟨[], [], none, [], [], none, []⟩ => true
  | _ => false
end Fy
end
section
set_option Elab.async false
set_option linter.all false
set_option maxRecDepth 100000
set_option maxHeartbeats 1000000
/-! Fy7: what the evaluator tells of an expression is what the text does. -/
namespace Fy
open PySem PySem.Spec PyProof.Rows L2

def biName : Bi → Str
  | .len => "len"
  | .int => "int"
  | .abs => "abs"
  | .isinst => "isinstance"
  | .all => "all"
  | .any => "any"
  | .tuple => "tuple"
  | .list => "list"
  | .min => "min"
  | .max => "max"
  | .sum => "sum"
  | .sorted => "sorted"
theorem biBoot : ∀ f, bootBuiltins (biName f) = some (biOf f) := by
  intro f
  cases f <;> decide +kernel
/-- the classes that are named -/
def tyNames : List (Str × String) := [("int", "int"), ("bool", "bool"), ("str", "str"), ("tuple", "tuple"), ("list", "list"), ("dict", "dict")]
theorem tyBoot : ∀ p ∈ tyNames, bootBuiltins p.1 = some (.type p.2) := by decide +kernel
theorem tyNot : ∀ p ∈ tyNames, p.1 ≠ "__name__" ∧ (p.1 == ("__debug__" : Str)) = false := by decide +kernel

/-- what a call of a def is worth -/
def spF (g : Glo) (tb : Tab) (wf k : Nat) (f : Str) (np : Nat) : Sp := fun vs H Q E => ∃ ι s ds, RS g ι s H ∧ RDs g ι H ds vs ∧ vs.length = np ∧
  Wp g (fun c d _ H => E c d H) (rlT g) [] ι H (run tb wf k f ds s) Q

/-- a def of the text, ready to be called -/
structure CallOk (g : Glo) (P : Program) (w : World) (mg : Str → Option Value) (base : Heap) (tb : Tab) (wf k : Nat) (f : Str) (d : Fn) : Prop where
  ok : ∃ (fa : Addr) (fd : FuncData) (ps : List Str), FnOk P w g.K mg base (L2.CX P w) (3 * k + 2) fa fd ps (spF g tb wf k f d.np) ∧ ps.length = d.np ∧ mg f = some (.ref fa) ∧ PySem.W.keepIn g.K (.ref fa) = true ∧
    ∀ n, n ≤ d.np → d.np - n ≤ d.dv.length → ∃ ds dvs, Binds g.K fd ps ds ∧ Vals dvs ds ∧ ∀ ι H, RDs g ι H (d.dv.drop (d.dv.length + n - d.np)) dvs

/-- an own exception class, ready to be raised -/
structure XcOk (g : Glo) (P : Program) (w : World) (mg : Str → Option Value) (base : Heap) (c : Str) : Prop where
  ok : ∃ (C fI : Addr) (fd : FuncData), mg c = some (.ref C) ∧ g.ga c = C ∧ OexC g.K C ∧ PySem.W.findIn g.K (.ref C) "__init__" = some (some (.ref fI)) ∧ PySem.W.typeIn g.K (.ref fI) = some (.type "function") ∧
    FnOk P w g.K mg base (L2.CX P w) 1 fI fd ["self", "at"] (spXI C) ∧ Binds g.K fd ["self", "at"] []
/-- where one stands -/
structure CtxA (g : Glo) (tb : Tab) (wf k : Nat) (W : WX) (X : Cx) : Prop where
  hK : X.K = g.K
  calm : X.calm = true
  nd : X.N.Nodup
  kind : X.env.scope.kind = .function
  po : PassesOwn (model X.prog X.w) X.A X.env X.xe
  room : Room (3 * k + 2) X.A
  mgB : ∀ f, X.mg (biName f) = none
  mgI : X.mg "range" = none ∧ X.mg "zip" = none ∧ X.mg "enumerate" = none
  mgT : ∀ p ∈ tyNames, X.mg p.1 = none
  tk : Takes X W
  deep : tb.lam = true → Deep g k X
  hds : ∀ x c, tb.hd x = some c → HdOk g X.mg x c
  xcs : ∀ c, tb.xc c = true → XcOk g X.prog X.w X.mg X.base c
  con : ∀ x d, tb.cs x = some d → ∃ u v, X.mg x = some u ∧ RelV v u ∧ ∀ ι H, RD g ι H d v
  calls : ∀ f d, tb f = some d → CallOk g X.prog X.w X.mg X.base tb wf k f d

abbrev noW : WX := fun _ _ _ _ => False
section
variable {g : Glo} {tb : Tab} {wf k : Nat} {W : WX} {X : Cx}
theorem CallOk.off {P : Program} {w : World} {mg : Str → Option Value} {base : Heap} {f : Str} {d : Fn} (h : CallOk g P w mg base tb wf k f d) : CallOk g P w mg base tb.off wf k f d := by
  obtain ⟨fa, fd, ps, F, r⟩ := h.ok
  exact ⟨fa, fd, ps, F.imp fun vs H Q E ⟨ι, s, ds, a, b, c, e⟩ => ⟨ι, s, ds, a, b, c, by rw [← run_off]; exact e⟩, r⟩
theorem CtxA.blk (c : CtxA g tb wf k W X) (s : Shared) (H : Hp) (scope : Scope) (C : Addr) (cl : List (Str × Addr)) (fp : List Addr) (hk : scope.kind = .function) : CtxA g tb.off wf k noW (X.blk s H scope (compEnvC scope cl C X.env) fp) :=
  ⟨c.hK, c.calm, c.nd, hk, fun _ _ z => z.elim, c.room, c.mgB, c.mgI, c.mgT, fun u s' x => by
    obtain ⟨_, _, _, _, _, _, _, _, _, _, _, _, _, _, _, _, w⟩ := x
    exact w, (fun z => by cases z), c.hds, c.xcs, c.con, fun f d h => (c.calls f d h).off⟩
theorem CtxA.lamb (c : CtxA g tb wf k W X) {A : Around} {outer : List PySem.Env} {s : Shared} {H : Hp} {E : XK} {scope : Scope} {f c' : Addr} (hk : scope.kind = .function) (hr : Room (3 * k + 2) (A.deeper (LamX.lamEnv X scope s.heap.objs.size f c'))) :
    CtxA g tb.off wf k (fun c d _ H => E c d H) (LamX.lamCx X A outer s H E scope f c') :=
  ⟨c.hK, rfl, c.nd, hk, passes_of rfl, hr, c.mgB, c.mgI, c.mgT, takes_of rfl rfl rfl rfl, (fun z => by cases z), c.hds, c.xcs, c.con, fun f d h => (c.calls f d h).off⟩

/-! ### the checker: that a piece of the text is what the IR says -/
def opB : Bop → Operator → Bool
  | .add, .Add => true
  | .sub, .Sub => true
  | .mul, .Mult => true
  | .fdiv, .FloorDiv => true
  | .mod, .Mod => true
  | .pow, .Pow => true
  | _, _ => false
theorem opB_ok {a : Bop} {b : Operator} (h : opB a b = true) : b = opOf a := by
  cases a <;> cases b <;> first | rfl | (simp [opB] at h)
def cmpB : Cop → CmpOp → Bool
  | .eq, .Eq => true
  | .ne, .NotEq => true
  | .lt, .Lt => true
  | .le, .LtE => true
  | .gt, .Gt => true
  | .ge, .GtE => true
  | .is, .Is => true
  | .isnot, .IsNot => true
  | .inn, .In => true
  | .notin, .NotIn => true
  | _, _ => false
theorem cmpB_ok {a : Cop} {b : CmpOp} (h : cmpB a b = true) : b = cmpOf a := by
  cases a <;> cases b <;> first | rfl | (simp [cmpB] at h)
def notStar : Expr → Bool
  | .Starred _ _ => false
  | .Slice _ _ _ _ => false
  | .Set _ _ _ => false
  | _ => true
def lmName : Lm → Str
  | .ext => "extend"
  | .pop => "pop"
  | .idx => "index"
def baseE : Expr → Bool
  | .Call .. => false
  | _ => true
def vMeth : Expr → Option (Expr × Str × Pos × List Expr × Pos)
  | .Call (.Attribute x n ap) ys [] cp => some (x, n, ap, ys, cp)
  | _ => none
theorem vMeth_some {e : Expr} {r : Expr × Str × Pos × List Expr × Pos} (h : vMeth e = some r) : e = .Call (.Attribute r.1 r.2.1 r.2.2.1) r.2.2.2.1 [] r.2.2.2.2 := by
  unfold vMeth at h
  split at h
  · cases h; rfl
  · cases h
def meA (m : Lm) (ys : List Expr) : Bool :=
  match m with
  | .pop => ys.isEmpty
  | _ => ys.length == 1
def vLamC : Expr → Option (Str × Pos × Arguments × Expr × Scope × Pos × Pos)
  | .Call (.Name x p) [.Lambda params body scope lpos] [] pos => some (x, p, params, body, scope, lpos, pos)
  | _ => none
theorem vLamC_some {e : Expr} {r : Str × Pos × Arguments × Expr × Scope × Pos × Pos} (h : vLamC e = some r) : e = .Call (.Name r.1 r.2.1) [.Lambda r.2.2.1 r.2.2.2.1 r.2.2.2.2.1 r.2.2.2.2.2.1] [] r.2.2.2.2.2.2 := by
  unfold vLamC at h
  split at h
  · cases h; rfl
  · cases h
def okNm (x : Str) : Bool := !(x == ("__debug__" : Str)) && !(x == ("__classdict__" : Str))
def fbOf (scope : Scope) : Str → Bool := fun x => scope.names.lookup x == some .cell
def arB (tb : Tab) (f : Str) (n : Nat) : Bool :=
  match tb f with
  | some d => decide (n ≤ d.np) && decide (d.np - n ≤ d.dv.length)
  | none => false
mutual
def ckE (tb : Tab) (sc : Scope) (fb : Str → Bool) (N : List Str) : E → Expr → Bool
  | .var i, .Name x _ => decide (N[i]? = some x) && visB sc x && okNm x
  | .int n, .Constant (.int m) _ _ => decide (n = m)
  | .bl b, .Constant (.bool c) _ _ => b == c
  | .non, .Constant .none _ _ => true
  | .str x, .Constant (.str y) _ _ => decide (x = y)
  | .tyn x t, .Name y _ => decide (x = y) && glB sc y && decide ((x, t) ∈ tyNames)
  | .con x d, .Name y _ => decide (x = y) && glB sc y && okNm y && decide (tb.cs x = some d)
  | .bin op a b, .BinOp x o y _ => opB op o && ckE tb sc fb N a x && ckE tb sc fb N b y
  | .neg a, .UnaryOp .USub x _ => ckE tb sc fb N a x
  | .cmp op a b, .Compare x [o] [y] _ => cmpB op o && ckE tb sc fb N a x && ckE tb sc fb N b y
  | .chain op op' a b c, .Compare x [o, o'] [y, z] _ => cmpB op o && cmpB op' o' && ckE tb sc fb N a x && ckE tb sc fb N b y && ckE tb sc fb N c z
  | .and2 a b, .BoolOp .And (x :: y :: r) p => ckE tb sc fb N a x && (match r with | [] => ckE tb sc fb N b y | _ => ckE tb sc fb N b (.BoolOp .And (y :: r) p))
  | .or2 a b, .BoolOp .Or (x :: y :: r) p => ckE tb sc fb N a x && (match r with | [] => ckE tb sc fb N b y | _ => ckE tb sc fb N b (.BoolOp .Or (y :: r) p))
  | .not1 a, .UnaryOp .Not x _ => ckE tb sc fb N a x
  | .ite c a b, .IfExp x y z _ => ckE tb sc fb N c x && ckE tb sc fb N a y && ckE tb sc fb N b z
  | .tup es, .Tuple xs _ _ => ckEs tb sc fb N es xs
  | .lst es, .List xs _ => ckEs tb sc fb N es xs
  | .idx a i, .Subscript x y _ => ckE tb sc fb N a x && ckE tb sc fb N i y
  | .slc a lo hi, .Subscript x (.Slice l h none _) _ => ckE tb sc fb N a x && ckEo tb sc fb N lo l && ckEo tb sc fb N hi h
  | .call f es, .Call (.Name x _) (y :: ys) [] _ => decide (f = x) && glB sc x && okNm x && arB tb x (ys.length + 1) && ckEs tb sc fb N es (y :: ys)
  | .bi f es, .Call (.Name x _) (y :: ys) [] _ => decide (biName f = x) && glB sc x && okNm x && ckEs tb sc fb N es (y :: ys)
  | .heard f c e, z => (match vLamC z with
    | some r => decide (f = r.1) && glB sc r.1 && tb.lam && decide (tb.hd f = some c) && noPar r.2.2.1 && LamX.lamSB sc r.2.2.2.2.1 && ckE tb.off r.2.2.2.2.1 (fun _ => false) N e r.2.2.2.1
    | none => false)
  | .dnew, .Dict [] [] _ => true
  | .dic1 k v, .Dict [some x] [y] _ => ckE tb sc fb N k x && ckE tb sc fb N v y
  | .dget2 a k e, z => (match vMeth z with
    | some (x, n, ap, [y, w], cp) => decide (n = "get") && baseE x && (ap.endLine == cp.line) && ckE tb sc fb N a x && ckE tb sc fb N k y && ckE tb sc fb N e w
    | _ => false)
  | .app o es, z => (match vMeth z with
    | some (x, n, ap, ys, cp) => decide (n = "append") && baseE x && (ap.endLine == cp.line) && (ys.length == 1) && ckE tb sc fb N o x && ckEs tb sc fb N es ys
    | none => false)
  | .me m o es, z => (match vMeth z with
    | some (x, n, ap, ys, cp) => decide (n = lmName m) && baseE x && (ap.endLine == cp.line) && meA m ys && ckE tb sc fb N o x && ckEs tb sc fb N es ys
    | none => false)
  | .lc own tg it c e, .ListComp x [⟨t, i, ifs, 0⟩] scope _ => blkC N sc scope own && tg.slots.all (fun n => decide (n ∈ own.map (·.2))) && ckT (relS scope sc) (fbOf scope) N tg t && ckIt tb sc fb N it t i && ckC tb.off (relS scope sc) (fbOf scope) N c ifs && ckE tb.off (relS scope sc) (fbOf scope) N e x
  | _, _ => false
def ckEs (tb : Tab) (sc : Scope) (fb : Str → Bool) (N : List Str) : Es → List Expr → Bool
  | .nil, [] => true
  | .cons e es, x :: xs => ckE tb sc fb N e x && ckEs tb sc fb N es xs
  | _, _ => false
def ckEo (tb : Tab) (sc : Scope) (fb : Str → Bool) (N : List Str) : Eo → Option Expr → Bool
  | .none, none => true
  | .some e, some x => ckE tb sc fb N e x
  | _, _ => false
def ckC (tb : Tab) (sc : Scope) (fb : Str → Bool) (N : List Str) : Eo → List Expr → Bool
  | .none, [] => true
  | .some e, [x] => ckE tb sc fb N e x
  | _, _ => false
def ckIt (tb : Tab) (sc : Scope) (fb : Str → Bool) (N : List Str) : It → Expr → Expr → Bool
  | .seq e, _, x => ckE tb sc fb N e x
  | .rng es, _, .Call (.Name x _) xs [] _ => decide (x = "range") && glB sc x && ckEs tb sc fb N es xs && (xs.length == 1 || xs.length == 2)
  | .zip a b, .Tuple _ _ _, .Call (.Name x _) [y, z] [] _ => decide (x = "zip") && glB sc x && ckE tb sc fb N a y && ckE tb sc fb N b z
  | .enum a, .Tuple _ _ _, .Call (.Name x _) [y] [] _ => decide (x = "enumerate") && glB sc x && ckE tb sc fb N a y
  | _, _, _ => false
end
section
variable {tb : Tab} {sc : Scope} {fb : Str → Bool} {N : List Str}
theorem ck_star {e : E} {x : Expr} (h : ckE tb sc fb N e x = true) : notStar x = true := by
  cases x <;> first | rfl | (cases e <;> simp [ckE, vMeth, vLamC] at h)
theorem star_of {x : Expr} (h : notStar x = true) (xs : List Expr) (env : PySem.Env) : starEach (x :: xs) env = (false, eval x env) :: starEach xs env := by
  cases x <;> first | rfl | (simp [notStar] at h)
theorem plain_of {x : Expr} (h : notStar x = true) : PlainIx x := by
  cases x <;> first | (intro _ _; rfl) | (simp [notStar] at h)
theorem noset_of {x : Expr} (h : notStar x = true) (env : PySem.Env) (v : Value) : foldedSetIterable x env v = pure v := by
  cases x <;> first | rfl | (simp [notStar] at h)
theorem nomarks {x : Expr} (h : notStar x = true) (op : CmpOp) : behindInMarks op x = false := by
  cases x <;> first | rfl | (simp [notStar] at h)
theorem stars {es : Es} {xs : List Expr} (h : ckEs tb sc fb N es xs = true) (pos : Pos) (env : PySem.Env) : (backTo pos (starEach xs env)).any (·.1) = false := by
  induction xs generalizing es with
  | nil => rfl
  | cons x xs ih =>
    cases es with
    | nil => simp [ckEs] at h
    | cons e es =>
      simp only [ckEs, Bool.and_eq_true] at h
      rw [star_of (ck_star h.1)]
      exact ih h.2
end
end
end Fy
end
section
set_option Elab.async false
set_option linter.all false
set_option maxRecDepth 100000
set_option maxHeartbeats 2000000
/-! Fy8: expressions, one construct after another. -/
namespace Fy
open PySem PySem.Spec PyProof.Rows L2
/-- a value's truth behind it -/
def thr (f : Env → Sto → R T) : Env → Sto → R Bool := fun ρ s => (f ρ s).bind fun t s => ofO (truth t s) s
section
variable {g : Glo} {W : WX} {X : Cx} {σ : L2.St} {ι : List Addr} {H : Hp} {s : Sto} {e a b c : Expr} {f fa fb fc : Env → Sto → R T} {pos : Pos}

theorem pt_of (hK : X.K = g.K) (he : PE X e (tE g W f)) (hp : ∀ whole, PySem.isTrue e X.env whole = (do let v ← whole; standAt e.pos; holding [v] (truthy v))) : PT X e (tT g W (thr f)) :=
  PT.imp (pt_truth he hp) fun σ H Q ⟨ι, ρ, s, re, rs, w⟩ => ⟨ι, ρ, s, re, rs, Wp.step (RA := rlT g) w fun t s1 ι1 H1 v x1 rs1 r1 w1 => by
    obtain ⟨b, e, q⟩ := w1.opt
    exact ⟨b, by rw [hK]; exact tru_V rs1 r1.1 e, q ι1 H1 b Ext.refl rs1 rfl⟩⟩
theorem wp_cond {α β : Type} {RB : Rl α β} {Q : β → Hp → Prop} {ρ : Env} {m1 m2 : T → Sto → R α} {N : Bool → Hp → Prop}
    (w : Wp g W RB σ ι H ((fa ρ s).bind fun x s => match truth x s with | some true => m1 x s | some false => m2 x s | none => .bad) Q)
    (h1 : ∀ x s1 ι1 H1, truth x s1 = some true → Ext ι H ι1 H1 → RS g ι1 s1 H1 → Wp g W RB σ ι1 H1 (m1 x s1) Q → N true H1)
    (h2 : ∀ x s1 ι1 H1, truth x s1 = some false → Ext ι H ι1 H1 → RS g ι1 s1 H1 → Wp g W RB σ ι1 H1 (m2 x s1) Q → N false H1) : Wp g W rlB σ ι H (thr fa ρ s) N := by
  unfold thr
  cases h : fa ρ s with
  | ok x s1 =>
    rw [h] at w
    simp only [R.bind_ok] at w ⊢
    cases ht : truth x s1 with
    | none => rw [ht] at w; exact w.elim
    | some b =>
      rw [ht] at w
      rintro ι' H' b' x1 rs1 r1
      have r1' : b = b' := r1
      subst r1'
      cases b with
      | true => exact h1 x s1 ι' H' ht x1 rs1 (Wp.shift (m := m1 x s1) w x1)
      | false => exact h2 x s1 ι' H' ht x1 rs1 (Wp.shift (m := m2 x s1) w x1)
  | ex x s1 => rw [h] at w; exact w
  | bad => rw [h] at w; exact w.elim

/-! ### and, or, not, if -/
def fAnd (fa fb : Env → Sto → R T) : Env → Sto → R T := fun ρ s => (fa ρ s).bind fun x s => match truth x s with | some true => fb ρ s | some false => .ok x s | none => .bad
def fOr (fa fb : Env → Sto → R T) : Env → Sto → R T := fun ρ s => (fa ρ s).bind fun x s => match truth x s with | some false => fb ρ s | some true => .ok x s | none => .bad
def fIte (fc fa fb : Env → Sto → R T) : Env → Sto → R T := fun ρ s => (fc ρ s).bind fun x s => match truth x s with | some true => fa ρ s | some false => fb ρ s | none => .bad
theorem pe_and_ {x y : Expr} {r : List Expr} (hK : X.K = g.K) (ha : PE X x (tE g W fa)) (hb : PE X (.BoolOp .And (y :: r) pos) (tE g W fb)) : PE X (.BoolOp .And (x :: y :: r) pos) (tE g W (fAnd fa fb)) :=
  PE.imp (pe_andT ha hb) fun σ H Q ⟨ι, ρ, s, re, rs, w⟩ => ⟨ι, ρ, s, re, rs, Wp.step0 (RA := rlT g) w fun t s1 ι1 H1 v _ x1 rs1 r1 w0 => by
    cases ht : truth t s1 with
    | none => simp only [ht] at w0; exact w0.elim
    | some b =>
      refine ⟨b, by rw [hK]; exact tru_V rs1 r1.1 ht, ?_⟩
      cases b with
      | true => simp only [ht] at w0; exact ⟨ι1, ρ, s1, re.ext rs x1, rs1, Wp.shift w0 x1⟩
      | false => simp only [ht] at w0; exact w0 ι1 H1 v x1 rs1 r1⟩
theorem pe_or_ {x y : Expr} {r : List Expr} (hK : X.K = g.K) (ha : PE X x (tE g W fa)) (hb : PE X (.BoolOp .Or (y :: r) pos) (tE g W fb)) : PE X (.BoolOp .Or (x :: y :: r) pos) (tE g W (fOr fa fb)) :=
  PE.imp (pe_orT ha hb) fun σ H Q ⟨ι, ρ, s, re, rs, w⟩ => ⟨ι, ρ, s, re, rs, Wp.step0 (RA := rlT g) w fun t s1 ι1 H1 v _ x1 rs1 r1 w0 => by
    cases ht : truth t s1 with
    | none => simp only [ht] at w0; exact w0.elim
    | some b =>
      refine ⟨b, by rw [hK]; exact tru_V rs1 r1.1 ht, ?_⟩
      cases b with
      | false => simp only [ht] at w0; exact ⟨ι1, ρ, s1, re.ext rs x1, rs1, Wp.shift w0 x1⟩
      | true => simp only [ht] at w0; exact w0 ι1 H1 v x1 rs1 r1⟩
theorem pe_not_ {x : Expr} (hK : X.K = g.K) (ha : PE X x (tE g W fa)) : PE X (.UnaryOp .Not x pos) (tE g W fun ρ s => (fa ρ s).bind fun x s => match truth x s with | some b => .ok (.v (.bl (!b))) s | none => .bad) :=
  PE.imp (pe_notT ha) fun σ H Q ⟨ι, ρ, s, re, rs, w⟩ => ⟨ι, ρ, s, re, rs, Wp.step0 (RA := rlT g) w fun t s1 ι1 H1 v _ x1 rs1 r1 w0 => by
    cases ht : truth t s1 with
    | none => simp only [ht] at w0; exact w0.elim
    | some b =>
      refine ⟨b, by rw [hK]; exact tru_V rs1 r1.1 ht, ?_⟩
      simp only [ht] at w0
      exact w0 ι1 H1 _ x1 rs1 (rlT.v (.bl _))⟩
theorem thr_and : thr (fAnd fa fb) = fun ρ s => (fa ρ s).bind fun x s => match truth x s with | some true => thr fb ρ s | some false => .ok false s | none => .bad := by
  funext ρ s
  unfold thr fAnd
  cases fa ρ s with
  | ok x s1 =>
    simp only [R.bind_ok]
    cases ht : truth x s1 with
    | none => rfl
    | some b => cases b <;> simp [ht]
  | ex x s1 => rfl
  | bad => rfl
theorem thr_or : thr (fOr fa fb) = fun ρ s => (fa ρ s).bind fun x s => match truth x s with | some true => .ok true s | some false => thr fb ρ s | none => .bad := by
  funext ρ s
  unfold thr fOr
  cases fa ρ s with
  | ok x s1 =>
    simp only [R.bind_ok]
    cases ht : truth x s1 with
    | none => rfl
    | some b => cases b <;> simp [ht]
  | ex x s1 => rfl
  | bad => rfl
theorem thr_ite : thr (fIte fc fa fb) = fun ρ s => (fc ρ s).bind fun x s => match truth x s with | some true => thr fa ρ s | some false => thr fb ρ s | none => .bad := by
  funext ρ s
  unfold thr fIte
  cases fc ρ s with
  | ok x s1 =>
    simp only [R.bind_ok]
    cases ht : truth x s1 with
    | none => rfl
    | some b => cases b <;> rfl
  | ex x s1 => rfl
  | bad => rfl
def fNot (fa : Env → Sto → R T) : Env → Sto → R T := fun ρ s => (fa ρ s).bind fun x s => match truth x s with | some b => .ok (.v (.bl (!b))) s | none => .bad
theorem thr_not : thr (fNot fa) = fun ρ s => (thr fa ρ s).bind fun b s => .ok (!b) s := by
  funext ρ s
  simp only [thr, fNot]
  cases fa ρ s with
  | ok x s1 =>
    simp only [R.bind_ok]
    cases ht : truth x s1 with
    | none => rfl
    | some b => rfl
  | ex x s1 => rfl
  | bad => rfl
/-- a test that is one whatever the whole is -/
theorem pw_of {t : TT} {op : BoolOp} {xs : List Expr} (h : PT X (.BoolOp op xs pos) t) : PW X (.BoolOp op xs pos) t := ⟨fun wh pins s σ H Q I q => h.run pins s σ H Q I q⟩
theorem pw_and_ {x y : Expr} {r : List Expr} (ha : PT X x (tT g W (thr fa))) (hb : PW X (.BoolOp .And (y :: r) pos) (tT g W (thr fb))) : PT X (.BoolOp .And (x :: y :: r) pos) (tT g W (thr (fAnd fa fb))) :=
  PT.imp (pw_and ha hb).pt fun σ H Q ⟨ι, ρ, s, re, rs, w⟩ => by
    rw [thr_and] at w
    exact ⟨ι, ρ, s, re, rs, wp_cond w (fun x s1 ι1 H1 _ x1 rs1 w1 => by rw [if_pos rfl]; exact ⟨ι1, ρ, s1, re.ext rs x1, rs1, w1⟩)
      fun x s1 ι1 H1 _ x1 rs1 w1 => by rw [if_neg Bool.false_ne_true]; exact w1 ι1 H1 false Ext.refl rs1 rfl⟩
theorem pw_or_ {x y : Expr} {r : List Expr} (ha : PT X x (tT g W (thr fa))) (hb : PW X (.BoolOp .Or (y :: r) pos) (tT g W (thr fb))) : PT X (.BoolOp .Or (x :: y :: r) pos) (tT g W (thr (fOr fa fb))) :=
  PT.imp (pw_or ha hb).pt fun σ H Q ⟨ι, ρ, s, re, rs, w⟩ => by
    rw [thr_or] at w
    exact ⟨ι, ρ, s, re, rs, wp_cond w (fun x s1 ι1 H1 _ x1 rs1 w1 => by rw [if_pos rfl]; exact w1 ι1 H1 true Ext.refl rs1 rfl)
      fun x s1 ι1 H1 _ x1 rs1 w1 => by rw [if_neg Bool.false_ne_true]; exact ⟨ι1, ρ, s1, re.ext rs x1, rs1, w1⟩⟩
theorem pt_not_ {x : Expr} (ha : PT X x (tT g W (thr fa))) : PT X (.UnaryOp .Not x pos) (tT g W (thr (fNot fa))) :=
  PT.imp (pt_not ha) fun σ H Q ⟨ι, ρ, s, re, rs, w⟩ => by
    rw [thr_not] at w
    exact ⟨ι, ρ, s, re, rs, Wp.step (RA := rlB) w fun b s1 ι1 H1 v x1 rs1 r1 w1 => by
      have e : b = v := r1
      subst e
      exact w1 ι1 H1 _ Ext.refl rs1 rfl⟩
theorem pe_ite_ {x y z : Expr} (hc : PT X x (tT g W (thr fc))) (ha : PE X y (tE g W fa)) (hb : PE X z (tE g W fb)) : PE X (.IfExp x y z pos) (tE g W (fIte fc fa fb)) :=
  PE.imp (pe_ifExp hc ha hb) fun σ H Q ⟨ι, ρ, s, re, rs, w⟩ =>
    ⟨ι, ρ, s, re, rs, wp_cond (RB := rlT g) (Q := Q) w (fun x s1 ι1 H1 _ x1 rs1 w1 => by rw [if_pos rfl]; exact ⟨ι1, ρ, s1, re.ext rs x1, rs1, w1⟩)
      fun x s1 ι1 H1 _ x1 rs1 w1 => by rw [if_neg Bool.false_ne_true]; exact ⟨ι1, ρ, s1, re.ext rs x1, rs1, w1⟩⟩
theorem pt_ifExp {x y z : Expr} {tc ta tb' : TT} (hc : PT X x tc) (ha : PT X y ta) (hb : PT X z tb') : PT X (.IfExp x y z pos) (fun σ H Q => tc σ H fun c H1 => if c = true then ta σ H1 Q else tb' σ H1 Q) := by
  refine ⟨fun pins s σ H Q I h => ?_⟩
  show wpAny _ _ (do if ← PySem.isTrue x X.env (eval x X.env) then PySem.isTrue y X.env (eval y X.env) else PySem.isTrue z X.env (eval z X.env)) _ _ _
  refine wpAny_bind (thn (hc.run pins s σ H _ I h) fun d s1 ⟨H1, I1, q1⟩ => ?_)
  cases d with
  | true => exact ha.run pins s1 σ H1 Q I1 q1
  | false => exact hb.run pins s1 σ H1 Q I1 q1
theorem pt_ite_ {x y z : Expr} (hc : PT X x (tT g W (thr fc))) (ha : PT X y (tT g W (thr fa))) (hb : PT X z (tT g W (thr fb))) : PT X (.IfExp x y z pos) (tT g W (thr (fIte fc fa fb))) :=
  PT.imp (pt_ifExp hc ha hb) fun σ H Q ⟨ι, ρ, s, re, rs, w⟩ => by
    rw [thr_ite] at w
    exact ⟨ι, ρ, s, re, rs, wp_cond w (fun x s1 ι1 H1 _ x1 rs1 w1 => by rw [if_pos rfl]; exact ⟨ι1, ρ, s1, re.ext rs x1, rs1, w1⟩)
      fun x s1 ι1 H1 _ x1 rs1 w1 => by rw [if_neg Bool.false_ne_true]; exact ⟨ι1, ρ, s1, re.ext rs x1, rs1, w1⟩⟩

/-! ### two values -/
def f2 (op : T → T → Sto → Option T) (fa fb : Env → Sto → R T) : Env → Sto → R T := fun ρ s => (fa ρ s).bind fun x s => (fb ρ s).bind fun y s => ofO (op x y s) s
/-- the reading of an operation on two values -/
theorem two_ok {op : T → T → Sto → Option T} {Q : VK} (h : tE g W (f2 op fa fb) σ H Q) : tOp (rO2 g op) (tE g W fa) (tE g W fb) σ H Q := by
  obtain ⟨ι, ρ, s, re, rs, w⟩ := h
  refine ⟨ι, ρ, s, re, rs, Wp.step (RA := rlT g) w fun x s1 ι1 H1 v x1 rs1 r1 w1 => ?_⟩
  refine ⟨ι1, ρ, s1, re.ext rs x1, rs1, Wp.step (RA := rlT g) w1 fun y s2 ι2 H2 u x2 rs2 r2 w2 => ?_⟩
  exact ⟨ι2, s2, x, y, rs2, r1.1.ext rs1 x2, r2.1, w2.opt⟩
theorem pe_bin_ {op : Bop} (hK : X.K = g.K) (ha : PE X a (tE g W fa)) (hb : PE X b (tE g W fb)) : PE X (.BinOp a (opOf op) b pos) (tE g W (f2 (binT op) fa fb)) :=
  PE.imp (pe_op (bin_ok hK op) ha hb) fun σ H Q h => two_ok h
def fCmp (op : Cop) : T → T → Sto → Option T := fun x y s => (cmpT op x y s).map fun b => .v (.bl b)
theorem pe_cmp_ {op : Cop} (hK : X.K = g.K) (hu : X.A.units + 65 < cLine) (ha : PE X a (tE g W fa)) (hb : PE X b (tE g W fb)) (hm : behindInMarks (cmpOf op) b = false) : PE X (.Compare a [cmpOf op] [b] pos) (tE g W (f2 (fCmp op) fa fb)) :=
  PE.imp (pe_cmpR (cmp_ok hK hu op) ha hb hm) fun σ H Q h => two_ok h
theorem pt_cmp_ {op : Cop} (hK : X.K = g.K) (hu : X.A.units + 65 < cLine) (ha : PE X a (tE g W fa)) (hb : PE X b (tE g W fb)) (hm : behindInMarks (cmpOf op) b = false) : PT X (.Compare a [cmpOf op] [b] pos) (tT g W (thr (f2 (fCmp op) fa fb))) :=
  PT.imp (pt_cmpR (cmp_ok hK hu op) ha hb hm) fun σ H Q ⟨ι, ρ, s, re, rs, w⟩ => two_ok ⟨ι, ρ, s, re, rs, by
    refine Wp.step0 (RA := rlT g) w fun t s1 ι1 H1 v h1 x1 rs1 r1 w0 => ?_
    -- what a comparison gives is a bool
    have hb : ∃ b, t = .v (.bl b) := by
      unfold f2 at h1
      cases hx : fa ρ s with
      | ok x s2 =>
        rw [hx] at h1
        simp only [R.bind_ok] at h1
        cases hy : fb ρ s2 with
        | ok y s3 =>
          rw [hy] at h1
          simp only [R.bind_ok] at h1
          cases hc : cmpT op x y s3 with
          | none => rw [hc] at h1; simp at h1
          | some b => rw [hc] at h1; simp at h1; exact ⟨b, h1.1.symm⟩
        | ex _ _ => rw [hy] at h1; simp at h1
        | bad => rw [hy] at h1; simp at h1
      | ex _ _ => rw [hx] at h1; simp at h1
      | bad => rw [hx] at h1; simp at h1
    obtain ⟨b, rfl⟩ := hb
    cases r1.1.bl_
    exact ⟨b, rfl, (Wp.shift (RB := rlB) (m := .ok b s1) w0 x1) ι1 H1 b Ext.refl rs1 rfl⟩⟩
theorem pe_idx_ (hK : X.K = g.K) (hu : X.A.units + 65 < cLine) (ha : PE X a (tE g W fa)) (hb : PE X b (tE g W fb)) (hs : PlainIx b) : PE X (.Subscript a b pos) (tE g W (f2 idxT fa fb)) :=
  PE.imp (pe_ix (idx_ok hK hu) ha hb hs) fun σ H Q h => two_ok h
theorem pe_neg_ (ha : PE X a (tE g W fa)) : PE X (.UnaryOp .USub a pos) (tE g W fun ρ s => (fa ρ s).bind fun x s => match x with | .v (.int i) => .ok (.v (.int (-i))) s | _ => .bad) :=
  PE.imp (pe_un un_neg ha) fun σ H Q ⟨ι, ρ, s, re, rs, w⟩ => ⟨ι, ρ, s, re, rs, Wp.step (RA := rlT g) w fun x s1 ι1 H1 v x1 rs1 r1 w1 => by
    cases x with
    | l _ => exact w1.elim
    | v d =>
      cases d with
      | int i => cases r1.1.int_; exact ⟨i, rfl, w1 ι1 H1 _ Ext.refl rs1 (rlT.v (.int _))⟩
      | _ => exact w1.elim⟩
end
end Fy
end
section
set_option Elab.async false
set_option linter.all false
set_option maxRecDepth 100000
set_option maxHeartbeats 2000000
/-! Fy9: displays, arguments, calls, comprehensions. -/
namespace Fy
open PySem PySem.Spec PyProof.Rows L2
section
variable {g : Glo} {W : WX} {X : Cx} {σ : L2.St} {ι : List Addr} {H : Hp} {s : Sto} {e a b c : Expr} {f fa fb fc : Env → Sto → R T} {pos : Pos}

/-! ### a op b op' c -/
def fChain (op op' : Cop) (fa fb fc : Env → Sto → R T) : Env → Sto → R T := fun ρ s => (fa ρ s).bind fun x s => (fb ρ s).bind fun y s =>
  match cmpT op x y s with
  | some true => (fc ρ s).bind fun z s => ofO ((cmpT op' y z s).map fun b => .v (.bl b)) s
  | some false => .ok (.v (.bl false)) s
  | none => .bad
theorem chain_ok {op op' : Cop} {Q : VK} (h : tE g W (fChain op op' fa fb fc) σ H Q) : tChain (rO2 g (fCmp op)) (rO2 g (fCmp op')) (tE g W fa) (tE g W fb) (tE g W fc) σ H Q := by
  obtain ⟨ι, ρ, s, re, rs, w⟩ := h
  refine ⟨ι, ρ, s, re, rs, Wp.step (RA := rlT g) w fun x s1 ι1 H1 v x1 rs1 r1 w1 => ?_⟩
  refine ⟨ι1, ρ, s1, re.ext rs x1, rs1, Wp.step (RA := rlT g) w1 fun y s2 ι2 H2 u x2 rs2 r2 w2 => ?_⟩
  cases hc : cmpT op x y s2 with
  | none => rw [hc] at w2; exact w2.elim
  | some k =>
    rw [hc] at w2
    refine ⟨ι2, s2, x, y, rs2, r1.1.ext rs1 x2, r2.1, .v (.bl k), by simp [fCmp, hc], fun ι3 H3 z x3 rs3 r3 => ?_⟩
    cases r3.1.bl_
    refine ⟨k, rfl, ?_⟩
    cases k with
    | false =>
      rw [if_neg Bool.false_ne_true]
      exact (Wp.shift (RB := rlT g) (m := .ok (.v (.bl false)) s2) w2 x3) ι3 H3 _ Ext.refl rs3 (rlT.v (.bl _))
    | true =>
      rw [if_pos rfl]
      refine ⟨ι3, ρ, s2, (re.ext rs (x1.trans x2)).ext rs2 x3, rs3, Wp.step (RA := rlT g) (Wp.shift w2 x3) fun z s3 ι4 H4 q x4 rs4 r4 w4 => ?_⟩
      exact ⟨ι4, s3, y, z, rs4, (r2.1.ext rs2 x3).ext rs3 x4, r4.1, w4.opt⟩
theorem pe_chain_ {op op' : Cop} (hK : X.K = g.K) (hu : X.A.units + 65 < cLine) (ha : PE X a (tE g W fa)) (hb : PE X b (tE g W fb)) (hc : PE X c (tE g W fc)) (hm : lastMarks [cmpOf op, cmpOf op'] [b, c] = false) :
    PE X (.Compare a [cmpOf op, cmpOf op'] [b, c] pos) (tE g W (fChain op op' fa fb fc)) :=
  PE.imp (pe_chain (cmp_ok hK hu op) (cmp_ok hK hu op') ha hb hc hm) fun σ H Q h => chain_ok h
theorem chain_bl {op op' : Cop} {ρ : Env} {t : T} {s1 : Sto} (h : fChain op op' fa fb fc ρ s = .ok t s1) : ∃ b, t = .v (.bl b) := by
  unfold fChain at h
  cases hx : fa ρ s with
  | ok x s2 =>
    rw [hx] at h
    simp only [R.bind_ok] at h
    cases hy : fb ρ s2 with
    | ok y s3 =>
      rw [hy] at h
      simp only [R.bind_ok] at h
      cases hc : cmpT op x y s3 with
      | none => rw [hc] at h; simp at h
      | some b =>
        rw [hc] at h
        cases b with
        | false => simp at h; exact ⟨_, h.1.symm⟩
        | true =>
          simp only at h
          cases hz : fc ρ s3 with
          | ok z s4 =>
            rw [hz] at h
            simp only [R.bind_ok] at h
            cases hd : cmpT op' y z s4 with
            | none => rw [hd] at h; simp at h
            | some b => rw [hd] at h; simp at h; exact ⟨b, h.1.symm⟩
          | ex _ _ => rw [hz] at h; simp at h
          | bad => rw [hz] at h; simp at h
    | ex _ _ => rw [hy] at h; simp at h
    | bad => rw [hy] at h; simp at h
  | ex _ _ => rw [hx] at h; simp at h
  | bad => rw [hx] at h; simp at h
theorem pt_chain_ {op op' : Cop} (hK : X.K = g.K) (hu : X.A.units + 65 < cLine) (ha : PE X a (tE g W fa)) (hb : PE X b (tE g W fb)) (hc : PE X c (tE g W fc)) (hm : lastMarks [cmpOf op, cmpOf op'] [b, c] = false) :
    PT X (.Compare a [cmpOf op, cmpOf op'] [b, c] pos) (tT g W (thr (fChain op op' fa fb fc))) :=
  PT.imp (pt_chain (cmp_ok hK hu op) (cmp_ok hK hu op') ha hb hc hm) fun σ H Q ⟨ι, ρ, s, re, rs, w⟩ => chain_ok ⟨ι, ρ, s, re, rs, Wp.step0 (RA := rlT g) w fun t s1 ι1 H1 v h1 x1 rs1 r1 w0 => by
    obtain ⟨b, rfl⟩ := chain_bl h1
    cases r1.1.bl_
    exact ⟨b, rfl, (Wp.shift (RB := rlB) (m := .ok b s1) w0 x1) ι1 H1 b Ext.refl rs1 rfl⟩⟩

/-! ### arguments -/
/-- kept: a list goes into the store -/
theorem wp_keep {α β : Type} {RB : Rl α β} {Q : β → Hp → Prop} {ρ : Env} {k : D → Sto → R α} {N : V → Hp → Prop}
    (h : Wp g W RB σ ι H ((fa ρ s).bind fun t s => (keepR t s).bind k) Q)
    (hk : ∀ d s1 ι1 H1 v, Ext ι H ι1 H1 → RS g ι1 s1 H1 → RD g ι1 H1 d v → Wp g W RB σ ι1 H1 (k d s1) Q → N v H1) : Wp g W (rlT g) σ ι H (fa ρ s) N :=
  Wp.step0 (RA := rlT g) h fun t s1 ι1 H1 v _ x1 rs1 r1 w0 => by
    obtain ⟨ι2, rs2, x2, rd⟩ := keep_ok rs1 x1 r1.1 r1.2
    exact hk _ _ ι2 H1 v x2 rs2 rd (Wp.shift w0 x2)
def aNil : Env → Sto → R (List D) := fun _ s => .ok [] s
def aCons (fa : Env → Sto → R T) (fs : Env → Sto → R (List D)) : Env → Sto → R (List D) := fun ρ s => (fa ρ s).bind fun t s => (keepR t s).bind fun d s => (fs ρ s).bind fun ds s => .ok (d :: ds) s
theorem pa_nil_ : PA X [] (tA g W aNil) := PA.imp pa_nil fun σ H Q ⟨ι, ρ, s, re, rs, w⟩ => w ι H [] Ext.refl rs .nil
theorem pa_cons_ {fs : Env → Sto → R (List D)} {es : List Expr} (ha : PE X e (tE g W fa)) (hr : PA X es (tA g W fs)) (hs : starEach (e :: es) X.env = (false, eval e X.env) :: starEach es X.env) : PA X (e :: es) (tA g W (aCons fa fs)) :=
  PA.imp (pa_cons ha hr hs) fun σ H Q ⟨ι, ρ, s, re, rs, w⟩ => ⟨ι, ρ, s, re, rs, wp_keep (RB := rlDs g) w fun d s1 ι1 H1 v x1 rs1 rd w1 =>
    ⟨ι1, ρ, s1, re.ext rs x1, rs1, Wp.step (RA := rlDs g) w1 fun ds s2 ι2 H2 vs x2 rs2 rds w2 => w2 ι2 H2 (v :: vs) Ext.refl rs2 (RDs.cons (rd.ext rs1 x2) rds)⟩⟩
def bNil : Env → Sto → R (List T) := fun _ s => .ok [] s
def bCons (fa : Env → Sto → R T) (fs : Env → Sto → R (List T)) : Env → Sto → R (List T) := fun ρ s => (fa ρ s).bind fun t s => (fs ρ s).bind fun ts s => .ok (t :: ts) s
theorem pb_nil_ : PA X [] (tAT g W bNil) := PA.imp pa_nil fun σ H Q ⟨ι, ρ, s, re, rs, w⟩ => w ι H [] Ext.refl rs .nil
theorem pb_cons_ {fs : Env → Sto → R (List T)} {es : List Expr} (ha : PE X e (tE g W fa)) (hr : PA X es (tAT g W fs)) (hs : starEach (e :: es) X.env = (false, eval e X.env) :: starEach es X.env) : PA X (e :: es) (tAT g W (bCons fa fs)) :=
  PA.imp (pa_cons ha hr hs) fun σ H Q ⟨ι, ρ, s, re, rs, w⟩ => ⟨ι, ρ, s, re, rs, Wp.step (RA := rlT g) w fun t s1 ι1 H1 v x1 rs1 r1 w1 =>
    ⟨ι1, ρ, s1, re.ext rs x1, rs1, Wp.step (RA := rlTs g) w1 fun ts s2 ι2 H2 vs x2 rs2 rts w2 => w2 ι2 H2 (v :: vs) Ext.refl rs2 (RTs.cons (r1.1.ext rs1 x2) rts)⟩⟩

/-! ### displays -/
theorem pe_tup_ {fs : Env → Sto → R (List D)} {es : List Expr} {n : Nat} (h : PA X es (tA g W fs)) : PE X (.Tuple es n pos) (tE g W fun ρ s => (fs ρ s).bind fun xs s => if xs.length ≤ LIM then .ok (.v (.tup xs)) s else .bad) :=
  PE.imp (pe_tup h) fun σ H Q ⟨ι, ρ, s, re, rs, w⟩ => ⟨ι, ρ, s, re, rs, Wp.step (RA := rlDs g) w fun ds s1 ι1 H1 vs x1 rs1 rds w1 => by
    have hs : sizeLine = LIM := sizeLine_eq
    split at w1
    · rename_i hl
      exact ⟨by rw [hs, ← RDs.length rds]; exact hl, fun p hp => w1 ι1 _ _ (Ext.upd hp) (rs1.upd hp) (newT rs1 hp rds)⟩
    · exact w1.elim⟩
theorem pe_lst_ {fs : Env → Sto → R (List D)} {es : List Expr} (h : PA X es (tA g W fs)) : PE X (.List es pos) (tE g W fun ρ s => (fs ρ s).bind fun xs s => if xs.length ≤ LIM then .ok (.l xs) s else .bad) :=
  PE.imp (pe_lst h) fun σ H Q ⟨ι, ρ, s, re, rs, w⟩ => ⟨ι, ρ, s, re, rs, Wp.step (RA := rlDs g) w fun ds s1 ι1 H1 vs x1 rs1 rds w1 => by
    have hs : sizeLine = LIM := sizeLine_eq
    split at w1
    · rename_i hl
      exact ⟨by rw [hs, ← RDs.length rds]; exact hl, fun p hp => w1 ι1 _ _ (Ext.upd hp) (rs1.upd hp) (newL rs1 hp rds)⟩
    · exact w1.elim⟩

/-! ### slices -/
def rlO : Rl (Option Int) (Option Int) := ⟨fun _ _ _ a b => a = b, fun _ _ h => h⟩
def tO (g : Glo) (W : WX) (f : Env → Sto → R (Option Int)) : TO := fun σ H Q => ∃ ι ρ s, RE g ι H ρ σ ∧ RS g ι s H ∧ Wp g W rlO σ ι H (f ρ s) Q
theorem PO.imp {e : Option Expr} {t t' : TO} (h : PO X e t) (f : ∀ σ H Q, t' σ H Q → t σ H Q) : PO X e t' := ⟨fun pins s σ H Q I w => h.run pins s σ H Q I (f _ _ _ w)⟩
theorem po_none_ : PO X none (tO g W fun _ s => .ok none s) := PO.imp po_none fun σ H Q ⟨ι, ρ, s, re, rs, w⟩ => w ι H none Ext.refl rs rfl
theorem po_some_ (ha : PE X e (tE g W fa)) : PO X (some e) (tO g W fun ρ s => (fa ρ s).bind fun t s => match t with | .v (.int i) => .ok (some i) s | _ => .bad) :=
  PO.imp (po_some ha) fun σ H Q ⟨ι, ρ, s, re, rs, w⟩ => ⟨ι, ρ, s, re, rs, Wp.step (RA := rlT g) w fun x s1 ι1 H1 v x1 rs1 r1 w1 => by
    cases x with
    | l _ => exact w1.elim
    | v d =>
      cases d with
      | int i => cases r1.1.int_; exact ⟨i, rfl, w1 ι1 H1 _ Ext.refl rs1 rfl⟩
      | _ => exact w1.elim⟩
theorem pe_slc_ {fl fh : Env → Sto → R (Option Int)} {l h : Option Expr} {p2 : Pos} (hK : X.K = g.K) (ha : PE X e (tE g W fa)) (hl : PO X l (tO g W fl)) (hh : PO X h (tO g W fh)) :
    PE X (.Subscript e (.Slice l h none p2) pos) (tE g W fun ρ s => (fa ρ s).bind fun x s => (fl ρ s).bind fun lo s => (fh ρ s).bind fun hi s => ofO (slcT x lo hi s) s) :=
  PE.imp (pe_slice (slc_ok hK) ha hl hh) fun σ H Q ⟨ι, ρ, s, re, rs, w⟩ => ⟨ι, ρ, s, re, rs, Wp.step (RA := rlT g) w fun x s1 ι1 H1 v x1 rs1 r1 w1 =>
    ⟨ι1, ρ, s1, re.ext rs x1, rs1, Wp.step (RA := rlO) w1 fun lo s2 ι2 H2 lo' x2 rs2 e2 w2 =>
      ⟨ι2, ρ, s2, re.ext rs (x1.trans x2), rs2, Wp.step (RA := rlO) w2 fun hi s3 ι3 H3 hi' x3 rs3 e3 w3 => by
        have e2' : lo = lo' := e2
        have e3' : hi = hi' := e3
        subst e2' e3'
        exact ⟨ι3, s3, x, rs3, r1.1.ext rs1 (x2.trans x3), w3.opt⟩⟩⟩⟩

/-! ### calls -/
theorem fill_fill {d : Fn} {xs : List D} (hf : (d.fill xs).length = d.np) : d.fill (d.fill xs) = d.fill xs := by
  have z : ∀ ys : List D, ys.length = d.np → d.fill ys = ys := fun ys h => by
    unfold Fn.fill
    rw [h, Nat.add_sub_cancel, List.drop_length, List.append_nil]
  exact z _ hf
theorem callee {tb : Tab} {wf k : Nat} {f : Str} {d : Fn} {xs : List D} (hd : tb f = some d) (hf : (d.fill xs).length = d.np) (s : Sto) : run tb wf k f (d.fill xs) s = run tb wf k f xs s := by
  cases k with
  | zero => rfl
  | succ k =>
    unfold run
    rw [hd]
    simp only
    rw [fill_fill hf]
theorem pe_call_ {tb : Tab} {wf k : Nat} {fs : Env → Sto → R (List D)} {x : Str} {p : Pos} {y : Expr} {ys : List Expr} (cx : CtxA g tb wf k W X) (hg : Gl X x) (hx : okNm x = true) (har : arB tb x (ys.length + 1) = true) (ha : PA X (y :: ys) (tA g W fs))
    (hlen : ∀ ρ s ds s', fs ρ s = .ok ds s' → ds.length = ys.length + 1)
    (he : starEach (y :: ys) X.env = (false, eval y X.env) :: starEach ys X.env) (hpl : (backTo pos (starEach ys X.env)).any (·.1) = false) :
    PE X (.Call (.Name x p) (y :: ys) [] pos) (tE g W fun ρ s => (fs ρ s).bind fun xs s => run tb wf k x xs s) := by
  have hdb : (x == ("__debug__" : Str)) = false := by
    unfold okNm at hx
    simp only [Bool.and_eq_true, Bool.not_eq_true'] at hx
    exact hx.1
  unfold arB at har
  cases hd : tb x with
  | none => rw [hd] at har; cases har
  | some d =>
    rw [hd] at har
    simp only [Bool.and_eq_true, decide_eq_true_eq] at har
    obtain ⟨fa, fd, ps, F, hps, hm, hk, hb⟩ := (cx.calls x d hd).ok
    obtain ⟨dv, dvs, B, hv, hrd⟩ := hb (ys.length + 1) har.1 har.2
    rw [← cx.hK] at B hk
    refine PE.imp (pe_callSD (E := fun σ c d H => W c d σ H) (by rw [cx.hK]; exact F) cx.room hg hm hk B hv (fun σ => passAt cx.tk σ) ha hdb he hpl) fun σ H Q ⟨ι, ρ, s, re, rs, w⟩ => ?_
    refine ⟨ι, ρ, s, re, rs, Wp.step0 (RA := rlDs g) w fun ds s1 ι1 H1 vs h1 x1 rs1 rds w0 => ?_⟩
    have hl := hlen _ _ _ _ h1
    have efill : d.fill ds = ds ++ d.dv.drop (d.dv.length + (ys.length + 1) - d.np) := by unfold Fn.fill; rw [hl]
    have flen : (d.fill ds).length = d.np := by
      rw [efill, List.length_append, List.length_drop, hl]
      omega
    have rds2 : RDs g ι1 H1 (d.fill ds) (vs ++ dvs) := by rw [efill]; exact RDs.append rds (hrd ι1 H1)
    refine ⟨ι1, s1, d.fill ds, rs1, rds2, by rw [← rds2.length, flen], ?_⟩
    rw [callee hd flen]
    have w1 := Wp.shift w0 x1
    cases hr : run tb wf k x ds s1 with
    | ok a s' => rw [hr] at w1; exact w1
    | ex e s' => rw [hr] at w1; exact w1
    | bad => rw [hr] at w1; exact w1
/-- a built-in's call -/
theorem pe_bi_ {tb : Tab} {wf k : Nat} {fs : Env → Sto → R (List T)} {f : Bi} {p : Pos} {y : Expr} {ys : List Expr} (cx : CtxA g tb wf k W X) (hg : Gl X (biName f)) (ha : PA X (y :: ys) (tAT g W fs))
    (he : starEach (y :: ys) X.env = (false, eval y X.env) :: starEach ys X.env) (hpl : (backTo pos (starEach ys X.env)).any (·.1) = false) :
    PE X (.Call (.Name (biName f) p) (y :: ys) [] pos) (tE g W fun ρ s => (fs ρ s).bind fun xs s => ofO (biT f xs s) s) := by
  have key : PE X (.Call (.Name (biName f) p) (y :: ys) [] pos) (tCB (rOB g f) (tAT g W fs)) := by
    have hc := bi_ok (X := X) cx.hK cx.calm f
    have hb := biBoot f
    have hm := cx.mgB f
    have h1 : biName f ≠ "__name__" := by cases f <;> decide +kernel
    have h2 : (biName f == ("__debug__" : Str)) = false := by cases f <;> decide +kernel
    cases f <;> first
      | exact pe_callB hc hg hm hb ha h1 h2 he hpl
      | exact pe_callTy hc hg hm hb ha h1 h2 he hpl
  refine PE.imp key fun σ H Q ⟨ι, ρ, s, re, rs, w⟩ => ⟨ι, ρ, s, re, rs, Wp.step (RA := rlTs g) w fun ts s1 ι1 H1 vs x1 rs1 rts w1 => ?_⟩
  exact ⟨ι1, s1, ts, rs1, rts, w1.opt⟩

/-! ### what is walked -/
theorem pi_seq_ {tg : Expr} (hK : X.K = g.K) (ha : PE X e (tE g W fa)) : PI X tg e (tI g W fun ρ s => (fa ρ s).bind fun t s => ofO (itemsOf t s) s) :=
  PI.imp (pi_seq ha) fun σ H R ⟨ι, ρ, s, re, rs, w⟩ => ⟨ι, ρ, s, re, rs, Wp.step (RA := rlT g) w fun t s1 ι1 H1 v x1 rs1 r1 w1 => by
    obtain ⟨I, e, q⟩ := w1.opt
    obtain ⟨a, ev, ht, hl⟩ := src_ok rs1 r1.1 e
    subst ev
    refine ⟨a, rfl, ?_⟩
    -- its lists stand now
    have st : stands I.src s1 = true := by
      unfold itemsOf at e
      split at e
      · cases e; rfl
      · cases e; rfl
      · cases e; rfl
      · simp only [Option.map_eq_some_iff] at e
        obtain ⟨xs, e1, rfl⟩ := e
        simp [stands, e1]
      · cases e
    by_cases hx : ∃ xs, t = .v (.tup xs)
    · obtain ⟨vs, hq, _⟩ := ht hx ι1 H1 s1 Ext.refl rs1 st
      rw [hK]
      exact .inr ⟨⟨vs, hq⟩, q ι1 H1 _ Ext.refl rs1 (walks_tup (ht hx))⟩
    · have hx' : ∀ xs, t ≠ .v (.tup xs) := fun xs h => hx ⟨xs, h⟩
      obtain ⟨vs, hq, _⟩ := hl hx' ι1 H1 s1 Ext.refl rs1 st
      rw [hK]
      exact .inl ⟨⟨vs, hq⟩, q ι1 H1 _ Ext.refl rs1 (walks_list (hl hx'))⟩⟩
theorem RDs.one {d : D} {vs : List V} (r : RDs g ι H [d] vs) : ∃ v, vs = [v] ∧ RD g ι H d v := by
  cases r with | cons r t => cases t; exact ⟨_, rfl, r⟩
theorem RDs.two {d d' : D} {vs : List V} (r : RDs g ι H [d, d'] vs) : ∃ v w, vs = [v, w] ∧ RD g ι H d v ∧ RD g ι H d' w := by
  cases r with | cons r t => cases t with | cons r' t => cases t; exact ⟨_, _, rfl, r, r'⟩
theorem pi_rng1_ {tg : Expr} {p : Pos} {fs : Env → Sto → R (List D)} {y : Expr} (hg : Gl X "range") (hm : X.mg "range" = none) (ha : PA X [y] (tA g W fs)) (hl : ∀ ρ s ds s', fs ρ s = .ok ds s' → ds.length = 1) (hs : starEach [y] X.env = [(false, eval y X.env)]) :
    PI X tg (.Call (.Name "range" p) [y] [] pos) (tI g W fun ρ s => (fs ρ s).bind fun xs s => ofO (rangeOf xs) s) :=
  PI.imp (pi_range1 hg hm ha hs) fun σ H R ⟨ι, ρ, s, re, rs, w⟩ => ⟨ι, ρ, s, re, rs, Wp.step0 (RA := rlDs g) w fun ds s1 ι1 H1 vs h1 x1 rs1 rds w0 => by
    obtain ⟨I, e, q⟩ := (Wp.shift w0 x1).opt
    match ds, hl _ _ _ _ h1, e with
    | [.int j], _, e =>
      obtain ⟨v, rfl, r⟩ := RDs.one rds
      cases r.int_
      have e' : rangeD 0 j = some I := e
      have bd : -(2 ^ 62) ≤ j ∧ j < 2 ^ 62 := by
        unfold rangeD at e'
        split at e'
        · rename_i hc; have h2 := hc.2; constructor <;> omega
        · cases e'
      exact ⟨j, rfl, bd.1, bd.2, q ι1 H1 _ Ext.refl rs1 (walks_rng e' (by simp))⟩
    | [.non], _, e | [.bl _], _, e | [.str _], _, e | [.tup _], _, e | [.fro _], _, e | [.loc _], _, e | [.ty _], _, e | [.gl _], _, e => cases e⟩
theorem pi_rng2_ {tg : Expr} {p : Pos} {fs : Env → Sto → R (List D)} {y z : Expr} (hg : Gl X "range") (hm : X.mg "range" = none) (ha : PA X [y, z] (tA g W fs)) (hl : ∀ ρ s ds s', fs ρ s = .ok ds s' → ds.length = 2)
    (hs : starEach [y, z] X.env = [(false, eval y X.env), (false, eval z X.env)]) (hs2 : starEach [z] X.env = [(false, eval z X.env)]) :
    PI X tg (.Call (.Name "range" p) [y, z] [] pos) (tI g W fun ρ s => (fs ρ s).bind fun xs s => ofO (rangeOf xs) s) :=
  PI.imp (pi_range2 hg hm ha hs hs2) fun σ H R ⟨ι, ρ, s, re, rs, w⟩ => ⟨ι, ρ, s, re, rs, Wp.step0 (RA := rlDs g) w fun ds s1 ι1 H1 vs h1 x1 rs1 rds w0 => by
    obtain ⟨I, e, q⟩ := (Wp.shift w0 x1).opt
    match ds, hl _ _ _ _ h1, e with
    | [a, b], _, e =>
      obtain ⟨i, j, rfl, rfl⟩ : ∃ i j, a = .int i ∧ b = .int j := by
        cases a <;> cases b <;> first | exact ⟨_, _, rfl, rfl⟩ | cases e
      obtain ⟨v, w, rfl, r, r'⟩ := RDs.two rds
      cases r.int_
      cases r'.int_
      have e' : rangeD i j = some I := e
      have bd : -(2 ^ 62) ≤ i ∧ i < 2 ^ 62 ∧ -(2 ^ 62) ≤ j ∧ j < 2 ^ 62 := by
        unfold rangeD at e'
        split at e'
        · rename_i hc; obtain ⟨h1, h2⟩ := hc; refine ⟨?_, ?_, ?_, ?_⟩ <;> omega
        · cases e'
      exact ⟨i, j, rfl, bd, q ι1 H1 _ Ext.refl rs1 (walks_rng e' rfl)⟩⟩
end
end Fy
end
section
set_option Elab.async false
set_option linter.all false
set_option maxRecDepth 100000
set_option maxHeartbeats 4000000
/-! Fz2: enumerate of a tuple. -/
namespace Fy
open PySem PySem.Spec PyProof.Rows L2
theorem new_enumT (l : Addr) (its : Array Value) (n : Nat) (dct : Option Addr) (sl : Array (Option Value)) :
    Meets (Builtin.«enumerate.__new__» ⟨[.type "enumerate", .ref l], []⟩) (fun _ R s => s.heap.get? l = some { cls := .type "tuple", dict := dct, data := .seq its n, slots := sl } ∧
      R (.ok (.ret (.ref (s.heap.push { cls := .type "tuple_iterator", data := .fields #[.ref l, .int 0 0] }).objs.size)))
        { s with heap := (s.heap.push { cls := .type "tuple_iterator", data := .fields #[.ref l, .int 0 0] }).push { cls := .type "enumerate", data := .fields #[.none, .bool false, .ref s.heap.objs.size, rawInt 0, .none, .none] } }) :=
  .of_wp fun prog w A R s h => by
    obtain ⟨hp, g, d, tk, os⟩ := s
    obtain ⟨hl, h⟩ := h
    have hsub := sub_enumerate
    have hT : Heap.IsTuple (Shared.heap ⟨hp, g, d, tk, os⟩) l its := ⟨_, hl, rfl, n, rfl⟩
    wp_walk using AutoSeq1.wpAny_loadPart' hl
    refine wpAny_stack_any fun st => wpAny_pure ?_
    split
    · rename_i c _ _ _ _ _
      cases (c == Value.type "enumerate") <;> (wp_walk using AutoSeq1.wpAny_loadPart' hl, wpAny_pyIter_tuple hT; exact ⟨_, rfl, h⟩)
    · wp_walk using AutoSeq1.wpAny_loadPart' hl, wpAny_pyIter_tuple hT
      exact ⟨_, rfl, h⟩
section
variable {prog : Program} {w : World} {A : Around} {E : Value → Shared → Prop} {s : Shared}
theorem call_enumT {l : Addr} {its : Array Value} {Q : Value → Shared → Prop} (hT : s.heap.IsTuple l its)
    (h : ∀ h', IsEnum h' (s.heap.objs.size + 1) s.heap.objs.size 0 .none → h'.IsTupleIter s.heap.objs.size l 0 →
      (∀ b o, s.heap.get? b = some o → h'.get? b = some o) → Q (.ref (s.heap.objs.size + 1)) { s with heap := h' }) :
    wpAny (model prog w) A (call (.type "enumerate") [.ref l]) Q E s := by
  obtain ⟨⟨c, dct, dt, sl⟩, hl, hc, n, hd⟩ := hT
  obtain rfl : c = .type "tuple" := hc
  obtain rfl : dt = .seq its n := hd
  refine callType_new F.called_enumerate (by decide) (F.typeCall_enumerate_1 _) (F.newCall_enumerate_1 _) (fun obj => F.args_object_init_2 obj _) F.entry_enumerate_new
    (new_enumT l its n dct sl) ⟨hl, ?_⟩
  generalize hp1 : s.heap.push { cls := .type "tuple_iterator", data := .fields #[.ref l, .int 0 0] } = p1
  have hz : p1.objs.size = s.heap.objs.size + 1 := by rw [← hp1]; exact Heap.size_push ..
  show _ ∧ _
  rw [hz]
  have he := Heap.get?_push_size p1 (o := { cls := .type "enumerate", data := .fields #[.none, .bool false, .ref s.heap.objs.size, rawInt 0, .none, .none] }) rfl
  rw [hz] at he
  have hi : p1.get? s.heap.objs.size = some { cls := .type "tuple_iterator", data := .fields #[.ref l, .int 0 0] } := by rw [← hp1]; exact Heap.get?_push_size _ rfl
  refine ⟨⟨_, he, rfl⟩, h _ he ⟨_, Heap.get?_push_of_some _ hi, rfl, rfl⟩ fun b o x => Heap.get?_push_of_some _ ?_⟩
  rw [← hp1]
  exact Heap.get?_push_of_some _ x
end
/-- a tuple's iterator at its end -/
theorem draws_end {prog : Program} {w : World} {A : Around} (hh : A.handled = none) (it t : Addr) (its : Array Value) (n : Nat) (hn : its.size ≤ n) :
    Draws prog w A it [it, t] n (fun _ _ => True) (fun i h => h.IsTupleIter it t i ∧ h.IsTuple t its ∧ i = n) where
  live := fun _ _ st => let ⟨o, ho, _⟩ := st.1; ⟨o, ho⟩
  frame := fun _ _ _ st hk => ⟨st.1.at fun o e => hk it (by simp) o e, st.2.1.at fun o e => hk t (by simp) o e, st.2.2⟩
  item := fun i s Q E hi st hQ => absurd st.2.2 (Nat.ne_of_lt hi)
  done := fun s Q E st hE => wpAny_nextOf_tuple_end hh st.1 st.2.1 (by simp; omega) hE
/-- the tuple at a, each item in a new pair -/
def Iet (K : PySem.W.Frag) (a : Addr) : L2.It :=
  ⟨fun i H => ∃ (xs : List V) (x : V), SqT K H a xs ∧ xs[i]? = some x, fun i H v H' => ∃ T x, v = .ref T ∧ H T = none ∧ H' = upd H T (.tup [.int (i : Nat), x]) ∧ ∀ xs, SqT K H a xs → xs[i]? = some x, fun i H => ∃ xs : List V, SqT K H a xs ∧ xs.length ≤ i⟩
theorem turn_enumT {P : Program} {w : World} {K : PySem.W.Frag} {elts : List Expr} {kk : Nat} {tpos : Pos} (a e it : Addr) :
    Turn P w K (.Tuple elts kk tpos) (Iet K a) [e, it] e (fun i h => (∃ old, IsEnum h e it ((i : Nat) : Int) old) ∧ h.IsTupleIter it a i ∧ e ≠ it) where
  mem := by simp
  obj := fun i h st b hb => by
    obtain ⟨⟨old, he⟩, ⟨o, ho, hc, hd⟩, _⟩ := st
    rcases (by simpa using hb : b = e ∨ b = it) with rfl | rfl
    · exact ⟨_, he, fun v q => nomatch q⟩
    · exact ⟨o, ho, fun v q => by rw [hd] at q; cases q⟩
  keep := fun i h h' ⟨⟨old, he⟩, hi, hne⟩ k => ⟨⟨old, k e (by simp) _ he⟩, hi.at fun o q => k it (by simp) o q, hne⟩
  item := by
    intro X hP hw hK hc i pins s σ H E I hf st hg
    subst hP hw hK
    obtain ⟨⟨old, he⟩, hit, hne⟩ := st
    obtain ⟨xs, x, hq, hx⟩ := hg
    obtain ⟨its, rv, p, hz⟩ := I.tuple hq
    have hT : s.heap.IsTuple a its.toArray := p
    obtain ⟨u, hu, ru⟩ := rv.get hx
    have hel : e < s.heap.objs.size := Heap.lt_size he
    have hil : it < s.heap.objs.size := by obtain ⟨_, q, _⟩ := hit; exact Heap.lt_size q
    have hai : a ≠ it := by
      rintro rfl
      obtain ⟨o1, q1, _, d1⟩ := hit
      obtain ⟨o2, q2, _, n2, d2⟩ := hT
      rw [q1] at q2; cases q2
      rw [d1] at d2; cases d2
    have hea : e ≠ a := by
      rintro rfl
      obtain ⟨o2, q2, _, n2, d2⟩ := hT
      have z : some _ = some o2 := he.symm.trans q2
      cases z
      cases d2
    have hlt : i < its.toArray.size := by
      have := (List.getElem?_eq_some_iff.mp hu).1
      simpa using this
    refine wpAny_pyNext_enum_itemD (Draws.tuple (A := X.A.in1) (I.ok.hd hc) it a hai its.toArray) he ⟨hit, hT⟩ hlt hne (by simp [hne, hea]) fun y h' tk hy ho st' hN hsz hk => ?_
    have ey : y = u := by
      have z : its.toArray[i]? = some y := hy
      rw [List.getElem?_toArray, hu] at z
      exact (Option.some.inj z).symm
    subst ey
    refine ⟨_, rfl, wpAny_letOwnedTupleGo_enum (s := { s with heap := h', toks := tk + 1 }) ho fun h'' he' sb => ?_⟩
    have hT2 : h''.get? s.heap.objs.size = some { cls := .type "tuple", data := .seq #[.int i tk, y] } := (sb.2 _ (Nat.ne_of_gt hel)).trans hN
    have new : ObjOk X.prog X.w (upd H s.heap.objs.size (.tup [.int (i : Nat), x])) h'' s.heap.objs.size (.tup [.int (i : Nat), x]) :=
      ⟨by show 2 ≤ sizeLine; decide, [.int i tk, y], .cons ⟨_, rfl⟩ (.cons ru .nil), ⟨_, hT2, rfl, _, rfl⟩⟩
    have I1 : Inv X pins σ (upd H s.heap.objs.size (.tup [.int (i : Nat), x])) { s with heap := h'', toks := tk + 1 } :=
      I.turnedNew (ch := [e, it]) (fun b ob hb q => (sb.2 b fun z => hb (by simp [z])).trans (hk b ob (fun z => hb (by simp [z])) (fun z => hb (by simp [z])) q)) hf (Nat.le_refl _) new
    refine ⟨.ref s.heap.objs.size, _, I1, rfl, ⟨_, x, rfl, I.hok.fresh (Nat.le_refl _), rfl, fun ys hy' => by rw [I.tuple_inj hy' hq]; exact hx⟩, ⟨⟨y, ?_⟩, st'.1.at fun o q => (sb.2 it (Ne.symm hne)).trans q, hne⟩, fun b hb => ?_⟩
    · rw [show ((i + 1 : Nat) : Int) = (i : Int) + 1 by omega]
      exact he'
    · have hb' : b < s.heap.objs.size := by
        rcases (by simpa using hb : b = e ∨ b = it) with rfl | rfl
        · exact hel
        · exact hil
      rw [upd_ne (Nat.ne_of_lt hb')]
      exact (hf b hb).1
  done := by
    intro X hP hw hK hc i pins s σ H E I hf st hg
    subst hP hw hK
    obtain ⟨⟨old, he⟩, hit, hne⟩ := st
    obtain ⟨xs, hq, hx⟩ := hg
    obtain ⟨its, rv, p, hz⟩ := I.tuple hq
    have hT : s.heap.IsTuple a its.toArray := p
    obtain ⟨f0, f1, f2, f3, f4, f5⟩ := hf it (by simp)
    have hl := rv.length
    exact wpAny_pyNext_enum_endD (draws_end (A := X.A.in1) (I.ok.hd hc) it a its.toArray i (by simp; omega)) he ⟨hit, hT, rfl⟩ fun h' eb => ⟨rfl, I.turned (t' := s.toks) (fun b o hb q => eb b o hb q) f0 f1 f3 f4 f5⟩
  self := fun A i s Q E ⟨⟨_, he⟩, _⟩ h => wpAny_pyIter_enum he h
def iEnumT (K : PySem.W.Frag) (ta : TA) : TI := fun σ H R => ta σ H fun vs H1 => ∃ a xs, vs = [.ref a] ∧ ((SqL K H1 a xs ∧ R (Ite K a) H1) ∨ (SqT K H1 a xs ∧ R (Iet K a) H1))
theorem pi_enumT {X : Cx} {e : Expr} {ta : TA} {p pos tpos : Pos} {elts : List Expr} {kk : Nat} (hg : Gl X "enumerate") (hm : X.mg "enumerate" = none) (ha : PA X [e] ta) (hs : starEach [e] X.env = [(false, eval e X.env)]) :
    PI X (.Tuple elts kk tpos) (.Call (.Name "enumerate" p) [e] [] pos) (iEnumT X.K ta) := by
  refine ⟨fun pins s σ H R I h => ?_⟩
  refine Call_ (ld_blt I hg hm boot_enumerate (PyProof.Rows.callWith_type1 (thn (ha.run pos pins s σ H _ I h) fun us s1 ⟨vs, H1, I1, r1, q1⟩ => ?_) hs rfl))
  obtain ⟨a, xs, rfl, q⟩ := q1
  cases r1 with
  | cons r rr =>
    cases rr
    cases r
    have two : ∀ b, b ∈ [s1.heap.objs.size + 1, s1.heap.objs.size] → FpOk X pins H1 b := fun b hb => by
      have hle : s1.heap.objs.size ≤ b := by
        rcases (by simpa using hb : b = s1.heap.objs.size + 1 ∨ b = s1.heap.objs.size) with z | z
        · rw [z]; exact Nat.le_add_right _ _
        · rw [z]; exact Nat.le_refl _
      exact I1.fpOk hle (I1.hok.fresh hle)
    rcases q with ⟨hq, q⟩ | ⟨hq, q⟩
    · obtain ⟨its, rv, p', hz⟩ := I1.list hq
      refine call_enumerate_list p'.isList fun h' he hit hsz hk => wpAny_pyIter_enum he ?_
      exact ⟨s1.heap.objs.size + 1, [s1.heap.objs.size + 1, s1.heap.objs.size], _, _, H1, rfl, I1.kept (t' := s1.toks) hk, turn_enum a (s1.heap.objs.size + 1) s1.heap.objs.size, ⟨⟨.none, he⟩, hit, Nat.succ_ne_self _⟩, two, q⟩
    · obtain ⟨its, rv, p', hz⟩ := I1.tuple hq
      refine call_enumT (show s1.heap.IsTuple a its.toArray from p') fun h' he hit hk => wpAny_pyIter_enum he ?_
      exact ⟨s1.heap.objs.size + 1, [s1.heap.objs.size + 1, s1.heap.objs.size], _, _, H1, rfl, I1.kept (t' := s1.toks) hk, turn_enumT a (s1.heap.objs.size + 1) s1.heap.objs.size, ⟨⟨.none, he⟩, hit, Nat.succ_ne_self _⟩, two, q⟩
end Fy
end
section
set_option Elab.async false
set_option linter.all false
set_option maxRecDepth 100000
set_option maxHeartbeats 2000000
/-! FyA: zip, enumerate, comprehensions; all expressions together. -/
namespace Fy
open PySem PySem.Spec PyProof.Rows L2
section
variable {g : Glo} {W : WX} {X : Cx} {σ : L2.St} {ι : List Addr} {H : Hp} {s : Sto} {e a b c : Expr} {f fa fb fc : Env → Sto → R T} {pos : Pos}

theorem stand_now {t : T} {I : Items} (e : itemsOf t s = some I) : stands I.src s = true := by
  unfold itemsOf at e
  split at e
  · cases e; rfl
  · cases e; rfl
  · cases e; rfl
  · simp only [Option.map_eq_some_iff] at e
    obtain ⟨xs, e1, rfl⟩ := e
    simp [stands, e1]
  · cases e
theorem stands_app {a b : List (Nat × List D)} (h : stands (a ++ b) s = true) : stands a s = true ∧ stands b s = true := by
  simpa [stands, List.all_append, Bool.and_eq_true] using h
theorem two_args (F : T → T → Sto → R Items) (ρ : Env) : ((fa ρ s).bind fun x s => (fb ρ s).bind fun y s => F x y s) = (bCons fa (bCons fb bNil) ρ s).bind fun ts s => match ts with | [x, y] => F x y s | _ => .bad := by
  unfold bCons bNil
  cases fa ρ s with
  | ok x s1 =>
    simp only [R.bind_ok]
    cases fb ρ s1 with
    | ok y s2 => rfl
    | ex _ _ => rfl
    | bad => rfl
  | ex _ _ => rfl
  | bad => rfl
theorem one_arg (F : T → Sto → R Items) (ρ : Env) : ((fa ρ s).bind fun x s => F x s) = (bCons fa bNil ρ s).bind fun ts s => match ts with | [x] => F x s | _ => .bad := by
  unfold bCons bNil
  cases fa ρ s with
  | ok x s1 => rfl
  | ex _ _ => rfl
  | bad => rfl
theorem zip_cases {x y : T} {I : Items} (e : zipOf x y s = some I) : (∃ xs ys, x = .v (.tup xs) ∧ y = .v (.tup ys) ∧ I = ⟨(xs.zip ys).map fun p => .tup [p.1, p.2], []⟩) ∨
    ((∀ xs, x ≠ .v (.tup xs)) ∧ (∀ ys, y ≠ .v (.tup ys)) ∧ ∃ I1 I2, itemsOf x s = some I1 ∧ itemsOf y s = some I2 ∧ I = ⟨(I1.xs.zip I2.xs).map fun p => .tup [p.1, p.2], I1.src ++ I2.src⟩) := by
  have gen : (∀ xs, x ≠ .v (.tup xs)) → (∀ ys, y ≠ .v (.tup ys)) → ((itemsOf x s).bind fun p => (itemsOf y s).map fun q => (⟨(p.xs.zip q.xs).map fun p => .tup [p.1, p.2], p.src ++ q.src⟩ : Items)) = some I →
      (∃ I1 I2, itemsOf x s = some I1 ∧ itemsOf y s = some I2 ∧ I = ⟨(I1.xs.zip I2.xs).map fun p => .tup [p.1, p.2], I1.src ++ I2.src⟩) := fun _ _ e => by
    simp only [Option.bind_eq_some_iff, Option.map_eq_some_iff] at e
    obtain ⟨I1, e1, I2, e2, e3⟩ := e
    exact ⟨I1, I2, e1, e2, e3.symm⟩
  by_cases hx : ∃ xs, x = .v (.tup xs)
  · obtain ⟨xs, rfl⟩ := hx
    by_cases hy : ∃ ys, y = .v (.tup ys)
    · obtain ⟨ys, rfl⟩ := hy
      cases e
      exact .inl ⟨xs, ys, rfl, rfl, rfl⟩
    · cases y with
      | l _ => cases e
      | v d => cases d <;> first | (exact absurd ⟨_, rfl⟩ hy) | cases e
  · have nx : ∀ xs, x ≠ .v (.tup xs) := fun xs h => hx ⟨xs, h⟩
    by_cases hy : ∃ ys, y = .v (.tup ys)
    · obtain ⟨ys, rfl⟩ := hy
      cases x with
      | l _ => cases e
      | v d => cases d <;> first | (exact absurd ⟨_, rfl⟩ hx) | cases e
    · have ny : ∀ xs, y ≠ .v (.tup xs) := fun xs h => hy ⟨xs, h⟩
      refine .inr ⟨nx, ny, gen nx ny ?_⟩
      cases x with
      | l _ =>
        cases y with
        | l _ => exact e
        | v d => cases d <;> first | (exact absurd ⟨_, rfl⟩ hy) | exact e
      | v d =>
        cases y with
        | l _ => cases d <;> first | (exact absurd ⟨_, rfl⟩ hx) | exact e
        | v d' => cases d <;> first | (exact absurd ⟨_, rfl⟩ hx) | (cases d' <;> first | (exact absurd ⟨_, rfl⟩ hy) | exact e)
theorem pi_zip_ {elts : List Expr} {kk : Nat} {tpos p : Pos} {y z : Expr} (hK : X.K = g.K) (hg : Gl X "zip") (hm : X.mg "zip" = none) (ha : PE X y (tE g W fa)) (hb : PE X z (tE g W fb)) (h1 : notStar y = true) (h2 : notStar z = true) :
    PI X (.Tuple elts kk tpos) (.Call (.Name "zip" p) [y, z] [] pos) (tI g W fun ρ s => (fa ρ s).bind fun x s => (fb ρ s).bind fun y s => ofO (zipOf x y s) s) :=
  PI.imp (RZ.pi_zipA hg hm (pb_cons_ ha (pb_cons_ hb pb_nil_ (star_of h2 _ _)) (star_of h1 _ _)) (star_of h1 _ _) (by rw [star_of h2]; rfl)) fun σ H R ⟨ι, ρ, s, re, rs, w⟩ => by
    dsimp only at w
    rw [two_args (fun x y s => ofO (zipOf x y s) s)] at w
    refine ⟨ι, ρ, s, re, rs, Wp.step (RA := rlTs g) w fun ts s1 ι1 H1 vs x1 rs1 rts w1 => ?_⟩
    match ts, rts, w1 with
    | [x, y], rts, w1 =>
      obtain ⟨v, u, rfl, r1, r2⟩ := RTs.two rts
      obtain ⟨I, e, q⟩ := w1.opt
      rw [hK]
      rcases zip_cases e with ⟨xs, ys, rfl, rfl, rfl⟩ | ⟨n1', n2', I1, I2, e1, e2, rfl⟩
      · obtain ⟨p, vs, rfl, hp, dp⟩ := r1.tup_
        obtain ⟨p', ws, rfl, hp', dp'⟩ := r2.tup_
        exact ⟨p, p', vs, ws, rfl, .inr ⟨hp, hp', q ι1 H1 _ Ext.refl rs1 (walks_zipT fun ι2 H2 s2 x2 rs2 _ => ⟨vs, ws, SqT.ext rs1 x2 hp, dp.ext rs1 x2, SqT.ext rs1 x2 hp', dp'.ext rs1 x2⟩)⟩⟩
      · obtain ⟨p, rfl, _, hl⟩ := src_ok rs1 r1 e1
        obtain ⟨p', rfl, _, hl'⟩ := src_ok rs1 r2 e2
        obtain ⟨vs, hq, _⟩ := hl n1' ι1 H1 s1 Ext.refl rs1 (stand_now e1)
        obtain ⟨ws, hq', _⟩ := hl' n2' ι1 H1 s1 Ext.refl rs1 (stand_now e2)
        refine ⟨p, p', vs, ws, rfl, .inl ⟨hq, hq', q ι1 H1 _ Ext.refl rs1 (walks_zipL fun ι2 H2 s2 x2 rs2 st => ?_)⟩⟩
        obtain ⟨st1, st2⟩ := stands_app st
        obtain ⟨vs', h1, d1⟩ := hl n1' ι2 H2 s2 x2 rs2 st1
        obtain ⟨ws', h2, d2⟩ := hl' n2' ι2 H2 s2 x2 rs2 st2
        exact ⟨vs', ws', h1, d1, h2, d2⟩
    | [], _, w1 => exact w1.elim
    | [_], _, w1 => exact w1.elim
    | _ :: _ :: _ :: _, _, w1 => exact w1.elim
theorem walks_enumT {a : Addr} {I : Items} (h : ∀ ι1 H1 s1, Ext ι H ι1 H1 → RS g ι1 s1 H1 → stands I.src s1 = true → ∃ vs, SqT g.K H1 a vs ∧ RDs g ι1 H1 I.xs vs) :
    Walks g ι H ⟨I.xs.zipIdx.map fun p => .tup [.int (p.2 : Nat), p.1], I.src⟩ (Iet g.K a) := fun ι1 H1 s1 i x rs st => by
  obtain ⟨vs, h1, d1⟩ := h ι1 H1 s1 x rs st
  refine ⟨fun d hd => ?_, fun hi => ⟨vs, h1, by rw [← d1.length]; simpa using hi⟩⟩
  simp only [List.getElem?_map, Option.map_eq_some_iff, List.getElem?_zipIdx] at hd
  obtain ⟨⟨y, k⟩, ⟨y', g1, e0⟩, rfl⟩ := hd
  simp only [Nat.zero_add, Prod.mk.injEq] at e0
  obtain ⟨rfl, rfl⟩ := e0
  obtain ⟨w, e1, r1⟩ := d1.get g1
  refine ⟨⟨vs, w, h1, e1⟩, fun z H2 ⟨T', w', e3, e4, e5, e6⟩ => ?_⟩
  have ew : w' = w := by
    have z := e6 vs h1
    rw [e1] at z; exact (Option.some.inj z).symm
  subst e3 e5 ew
  exact pair_ok rs e4 (.int _) r1

theorem pi_enum_ {elts : List Expr} {kk : Nat} {tpos p : Pos} {y : Expr} (hK : X.K = g.K) (hg : Gl X "enumerate") (hm : X.mg "enumerate" = none) (ha : PE X y (tE g W fa)) (h1 : notStar y = true) :
    PI X (.Tuple elts kk tpos) (.Call (.Name "enumerate" p) [y] [] pos) (tI g W fun ρ s => (fa ρ s).bind fun t s => ofO (enumOf t s) s) :=
  PI.imp (pi_enumT hg hm (pb_cons_ ha pb_nil_ (star_of h1 _ _)) (by rw [star_of h1]; rfl)) fun σ H R ⟨ι, ρ, s, re, rs, w⟩ => by
    dsimp only at w
    rw [one_arg (fun t s => ofO (enumOf t s) s)] at w
    refine ⟨ι, ρ, s, re, rs, Wp.step (RA := rlTs g) w fun ts s1 ι1 H1 vs x1 rs1 rts w1 => ?_⟩
    match ts, rts, w1 with
    | [x], rts, w1 =>
      obtain ⟨v, rfl, r1⟩ := RTs.one rts
      obtain ⟨I, e, q⟩ := w1.opt
      rw [hK]
      unfold enumOf at e
      simp only [Option.map_eq_some_iff] at e
      obtain ⟨I1, e1, rfl⟩ := e
      obtain ⟨p, rfl, ht, hl⟩ := src_ok rs1 r1 e1
      by_cases hx : ∃ xs, x = .v (.tup xs)
      · obtain ⟨vs, hq, _⟩ := ht hx ι1 H1 s1 Ext.refl rs1 (stand_now e1)
        exact ⟨p, vs, rfl, .inr ⟨hq, q ι1 H1 _ Ext.refl rs1 (walks_enumT (ht hx))⟩⟩
      · have hx' : ∀ xs, x ≠ .v (.tup xs) := fun xs h => hx ⟨xs, h⟩
        obtain ⟨vs, hq, _⟩ := hl hx' ι1 H1 s1 Ext.refl rs1 (stand_now e1)
        exact ⟨p, vs, rfl, .inl ⟨hq, q ι1 H1 _ Ext.refl rs1 (walks_enum (hl hx'))⟩⟩
    | [], _, w1 => exact w1.elim
    | _ :: _ :: _, _, w1 => exact w1.elim

/-! ### comprehensions -/
/-- a list that the comprehension fills, outside of the store -/
theorem RD.tmp {D0 : Addr} {vs : List V} {ys : List V} {d : D} {v : V} (h : H D0 = some (.lst vs)) (r : RD g ι H d v) : RD g ι (upd H D0 (.lst ys)) d v :=
  r.imp (fun _ _ q => q) (fun a ws q => by
    have ne : a ≠ D0 := by
      rintro rfl
      rcases q with q | ⟨o, q⟩ <;> (rw [h] at q; cases q)
    rcases q with q | ⟨o, q⟩
    · exact .inl (by rw [upd_ne ne]; exact q)
    · exact .inr ⟨o, by rw [upd_ne ne]; exact q⟩)
    (fun a o ws q => by
      have ne : a ≠ D0 := by
        rintro rfl
        rw [h] at q; cases q
      rw [upd_ne ne]; exact q)
theorem RDs.tmp {D0 : Addr} {vs : List V} {ys : List V} {d : List D} {v : List V} (h : H D0 = some (.lst vs)) (r : RDs g ι H d v) : RDs g ι (upd H D0 (.lst ys)) d v :=
  r.imp (fun _ _ q => q) (fun a ws q => by
    have ne : a ≠ D0 := by
      rintro rfl
      rcases q with q | ⟨o, q⟩ <;> (rw [h] at q; cases q)
    rcases q with q | ⟨o, q⟩
    · exact .inl (by rw [upd_ne ne]; exact q)
    · exact .inr ⟨o, by rw [upd_ne ne]; exact q⟩)
    (fun a o ws q => by
      have ne : a ≠ D0 := by
        rintro rfl
        rw [h] at q; cases q
      rw [upd_ne ne]; exact q)
theorem RS.tmp {D0 : Addr} {vs : List V} {ys : List V} (rs : RS g ι s H) (h : H D0 = some (.lst vs)) (n : D0 ∉ ι) : RS g ι s (L2.upd H D0 (.lst ys)) := by
  refine ⟨rs.nd, rs.len, fun k o e => ?_, tabs_set h rs.tb⟩
  obtain ⟨a, ea, r⟩ := rs.at_ k o e
  have ne : a ≠ D0 := fun q => n (q ▸ List.mem_of_getElem? ea)
  refine ⟨a, ea, ?_⟩
  exact r.move (upd_ne ne) fun q => q.tmp h

theorem pe_lc_ {elt tg' iter : Expr} {ifs : List Expr} {scope : Scope} {own : List (Str × Nat)} {tg : Tg} {fi : Env → Sto → R Items} {fc : Env → Sto → R Bool} {fe : Env → Sto → R T}
    (hK : X.K = g.K) (hc : X.calm = true) (hN : X.N.Nodup) (hi : PI X tg' iter (tI g W fi)) (ok : BlkOk X.N X.env.scope scope own) (hsl : ∀ i ∈ tg.slots, i ∈ own.map (·.2))
    (hg : ∀ (s : Shared) (H : Hp) (C : Addr) (cl : List (Str × Addr)) (fp : List Addr), PG (X.blk s H scope (compEnvC scope cl C X.env) fp) tg' (gE g tg))
    (ht : ∀ (s : Shared) (H : Hp) (C : Addr) (cl : List (Str × Addr)) (fp : List Addr), PTs (X.blk s H scope (compEnvC scope cl C X.env) fp) ifs (tT g noW fc))
    (he : ∀ (s : Shared) (H : Hp) (C : Addr) (cl : List (Str × Addr)) (fp : List Addr), PE (X.blk s H scope (compEnvC scope cl C X.env) fp) elt (tE g noW fe)) (hs : ∀ x, foldedSetIterable iter X.env x = pure x) :
    PE X (.ListComp elt [⟨tg', iter, ifs, 0⟩] scope pos) (tLc (tI g W fi) (gE g tg) (tT g noW fc) (tE g noW fe) (own.map (·.2))) := pe_lc hc hN hi ok hg ht he hs
/-- the reading of a comprehension -/
theorem lc_ok {vs : List Nat} {tg : Tg} {fi : Env → Sto → R Items} {fc : Env → Sto → R Bool} {fe : Env → Sto → R T} {Q : VK} (hsl : ∀ i ∈ tg.slots, i ∈ vs)
    (h : tE g W (fun ρ s => (fi ρ s).bind fun I s => lcLoop (lcF tg vs ρ fc fe) I.src I.xs [] s) σ H Q) : tLc (tI g W fi) (gE g tg) (tT g noW fc) (tE g noW fe) vs σ H Q := by
  obtain ⟨ι, ρ, s, re, rs, w⟩ := h
  have hsz : sizeLine = LIM := sizeLine_eq
  refine ⟨ι, ρ, s, re, rs, Wp.step (RA := rlI g) w fun I s1 ι1 H1 J x1 rs1 wk w1 => ?_⟩
  have wk' : Walks g ι1 H1 I J := wk
  intro D0 hD
  refine ⟨fun i m H' => m = I.xs.length - i ∧ i ≤ I.xs.length ∧ ∃ ι' s' acc vacc, Ext ι1 H1 ι' H' ∧ RS g ι' s' H' ∧ H' D0 = some (.lst vacc) ∧ D0 ∉ ι' ∧ RDs g ι' H' acc vacc ∧
    Wp g W (rlT g) σ ι1 H1 (lcLoop (lcF tg vs ρ fc fe) I.src (I.xs.drop i) acc s') Q, ⟨_, rfl, Nat.zero_le _, ι1, s1, [], [], Ext.upd hD, rs1.upd hD, upd_same, rs1.free hD, .nil, by simpa using w1⟩, ?_⟩
  rintro i m H' ⟨rfl, hi, ι', s', acc, vacc, x2, rs2, hD2, nD, racc, w2⟩
  by_cases hlt : i < I.xs.length
  · -- a turn
    obtain ⟨d, hd⟩ : ∃ d, I.xs[i]? = some d := ⟨I.xs[i], by simp [hlt]⟩
    have hdrop : I.xs.drop i = d :: I.xs.drop (i + 1) := by
      rw [List.drop_eq_getElem_cons hlt]
      congr 1
      rw [List.getElem?_eq_getElem hlt] at hd
      exact Option.some.inj hd
    rw [hdrop] at w2
    unfold lcLoop at w2
    cases hst : stands I.src s' with
    | false => rw [hst] at w2; simp only [Bool.false_eq_true, if_false] at w2; exact w2.elim
    | true =>
      rw [hst] at w2
      simp only [if_true] at w2
      obtain ⟨go, _⟩ := wk' ι' H' s' i x2 rs2 hst
      obtain ⟨hgo, yl⟩ := go d hd
      refine .inr ⟨hgo, fun H3 => ∃ ι3 s3 acc3 vacc3, Ext ι1 H1 ι3 H3 ∧ RS g ι3 s3 H3 ∧ H3 D0 = some (.lst vacc3) ∧ D0 ∉ ι3 ∧ RDs g ι3 H3 acc3 vacc3 ∧
        Wp g W (rlT g) σ ι1 H1 (lcLoop (lcF tg vs ρ fc fe) I.src (I.xs.drop (i + 1)) acc3 s3) Q, fun H3 h3 => ⟨_, by omega, rfl, hlt, h3⟩, fun x H4 hy => ?_⟩
      obtain ⟨x4, rs4, rd⟩ := yl x H4 hy
      -- the target
      unfold lcF at w2
      cases hb : bindT tg d (wipeE ρ vs) with
      | none => rw [hb] at w2; exact w2.elim
      | some ρ' =>
        rw [hb] at w2
        simp only at w2
        have re4 : RE g ι' H4 (wipeE ρ vs) (wipe σ vs) := (re.ext rs ((x1.trans x2).trans x4)).wipe vs
        refine ⟨ι', _, s', d, ρ', re4, rs4, rd, hb, fun σ2 re2 hw => ⟨hw vs hsl |>.trans (wipe_wipe σ vs), ι', ρ', s', re2, rs4, ?_⟩⟩
        -- the test
        have hD4 : H4 D0 = some (.lst vacc) := x4.keep _ _ hD2 nD rfl
        have racc4 := racc.ext rs2 x4
        cases hfc : fc ρ' s' with
        | bad => rw [hfc] at w2; exact w2.elim
        | ex _ _ => rw [hfc] at w2; exact w2.elim
        | ok b s5 =>
          rw [hfc] at w2
          simp only [R.bind_ok] at w2
          intro ι5 H5 b' x5 rs5 eb
          have eb' : b = b' := eb
          subst eb'
          have hD5 : H5 D0 = some (.lst vacc) := x5.keep _ _ hD4 nD rfl
          have nD5 : D0 ∉ ι5 := x5.out hD4 nD
          have racc5 := racc4.ext rs4 x5
          have x15 : Ext ι1 H1 ι5 H5 := (x2.trans x4).trans x5
          cases b with
          | false =>
            simp only [Bool.false_eq_true, if_false] at w2 ⊢
            exact ⟨ι5, s5, acc, vacc, x15, rs5, hD5, nD5, racc5, w2⟩
          | true =>
            simp only [if_true] at w2 ⊢
            refine ⟨ι5, ρ', s5, re2.ext rs4 x5, rs5, ?_⟩
            cases hfe : fe ρ' s5 with
            | bad => rw [hfe] at w2; exact w2.elim
            | ex _ _ => rw [hfe] at w2; exact w2.elim
            | ok t s6 =>
              rw [hfe] at w2
              simp only [R.bind_ok, keepR] at w2
              intro ι6 H6 y x6 rs6 ry
              obtain ⟨ι7, rs7, x7, rd7⟩ := keep_ok rs6 x6 ry.1 ry.2
              have hD6 : H6 D0 = some (.lst vacc) := x7.keep _ _ hD5 nD5 rfl
              have nD7 : D0 ∉ ι7 := x7.out hD5 nD5
              split at w2
              · rename_i hlim
                refine ⟨vacc, hD6, by rw [hsz, ← racc5.length]; exact hlim, ι7, _, acc ++ [(t.keep s6).1], vacc ++ [y], ?_, rs7.tmp hD6 nD7, upd_same, nD7, ?_, w2⟩
                · have x17 := x15.trans x7
                  refine ⟨x17.pre, fun c o ec nc hn => ?_, x17.new⟩
                  rw [upd_ne (ne_of_none ec hD)]
                  exact x17.keep c o ec nc hn
                · exact ((racc5.ext rs5 x7).tmp hD6).append (.cons (rd7.tmp hD6) .nil)
              · exact w2.elim
  · -- the end
    have ei : i = I.xs.length := by omega
    subst ei
    rw [List.drop_length] at w2
    unfold lcLoop at w2
    cases hst : stands I.src s' with
    | false => rw [hst] at w2; simp only [Bool.false_eq_true, if_false] at w2; exact w2.elim
    | true =>
      rw [hst] at w2
      simp only [if_true] at w2
      exact .inl ⟨(wk' ι' H' s' _ x2 rs2 hst).2 (Nat.le_refl _), w2 ι' H' _ x2 rs2 ⟨.l hD2 nD racc, D0, rfl, nn_none hD⟩⟩
end
end Fy
end
section
set_option Elab.async false
set_option linter.all false
set_option maxRecDepth 100000
set_option maxHeartbeats 4000000
/-! FyG: methods of lists. -/
namespace Fy
open PySem PySem.Spec PyProof.Rows L2
section
variable {g : Glo} {W : WX} {X : Cx} {σ : L2.St} {ι ι1 ι' : List Addr} {H H1 H' : Hp} {s s' : Sto} {fa : Env → Sto → R T} {ρ : Env}
def lmId : Lm → String
  | .ext => "list.extend"
  | .pop => "list.pop"
  | .idx => "list.index"
theorem lmSlot : ∀ m, Slot "list" (lmName m) (lmId m)
  | .ext => PySem.F.slot_list_extend
  | .pop => PySem.F.slot_list_pop
  | .idx => PySem.F.slot_list_index
theorem lmTy : ∀ m, typeOf (.builtin (lmId m)) = pure (.type "method_descriptor")
  | .ext => PySem.F.type_list_extend
  | .pop => PySem.F.type_list_pop
  | .idx => PySem.F.type_list_index
/-- what a method is worth -/
def rMe (g : Glo) (W : WX) (σ : L2.St) (m : Lm) : V → List V → Hp → VK → Prop := fun x vs H Q => ∃ ι s t ts, RS g ι s H ∧ RT g ι H t x ∧ RTs g ι H ts vs ∧ Wp g W (rlT g) σ ι H (meT m t ts s) Q
theorem RDs.dropLast {xs : List D} {vs : List V} (r : RDs g ι H xs vs) : RDs g ι H xs.dropLast vs.dropLast := by
  rw [List.dropLast_eq_take, List.dropLast_eq_take, r.length]
  exact r.take _
theorem loc_at (rs : RS g ι s H) {n : Nat} {x : V} {xs : List D} (r : RT g ι H (.v (.loc n)) x) (e : s[n]? = some (.lst xs)) : ∃ a vs, x = .ref a ∧ ι[n]? = some a ∧ H a = some (.lst vs) ∧ RDs g ι H xs vs := by
  cases r with
  | v q =>
    cases q with
    | @loc _ a q =>
      obtain ⟨b, eb, vs, e1, r1⟩ := rs.at_ n _ e
      have e2 : b = a := by rw [q] at eb; exact (Option.some.inj eb).symm
      subst e2
      exact ⟨b, vs, rfl, q, e1, r1⟩
theorem RS.put {n : Nat} {a : Addr} {xs ys : List D} {vs ws : List V} (rs : RS g ι s H) (hs : s[n]? = some (.lst xs)) (ha : ι[n]? = some a) (hv : H a = some (.lst vs)) (r : RDs g ι H ys ws) :
    RS g ι (s.set n (.lst ys)) (L2.upd H a (.lst ws)) ∧ Ext ι H ι (L2.upd H a (.lst ws)) := by
  have x : Ext ι H ι (L2.upd H a (.lst ws)) := ⟨List.prefix_refl _, fun b o e nb _ => by rw [upd_ne (fun q => nb (by rw [q]; exact List.mem_of_getElem? ha))]; exact e, fun _ m nm => absurd m nm⟩
  have tm : ∀ b us, Rd H b (.tup us) → Rd (L2.upd H a (.lst ws)) b (.tup us) := fun b us q => by
    have ne : b ≠ a := by
      rintro rfl
      rcases q with q | ⟨o, q⟩ <;> (rw [hv] at q; cases q)
    rcases q with q | ⟨o, q⟩
    · exact .inl (by rw [upd_ne ne]; exact q)
    · exact .inr ⟨o, by rw [upd_ne ne]; exact q⟩
  have fm : ∀ b o us, H b = some (.frz o (.lst us)) → (L2.upd H a (.lst ws)) b = some (.frz o (.lst us)) := fun b o us q => by
    have ne : b ≠ a := by
      rintro rfl
      rw [hv] at q; cases q
    rw [upd_ne ne]; exact q
  refine ⟨⟨rs.nd, by simp [rs.len], fun k o e => ?_, tabs_set hv rs.tb⟩, x⟩
  by_cases hk : n = k
  · subst hk
    have hl : n < s.length := (List.getElem?_eq_some_iff.mp hs).1
    rw [List.getElem?_set_self hl] at e
    cases e
    exact ⟨a, ha, ws, upd_same, r.imp (fun _ _ q => q) tm fm⟩
  · rw [List.getElem?_set_ne hk] at e
    obtain ⟨b, eb, rb⟩ := rs.at_ k o e
    have ne : b ≠ a := by
      rintro rfl
      have h1 := (List.getElem?_eq_some_iff.mp ha)
      have h2 := (List.getElem?_eq_some_iff.mp eb)
      obtain ⟨l1, e1⟩ := h1
      obtain ⟨l2, e2⟩ := h2
      exact hk ((List.getElem_inj rs.nd).mp (e1.trans e2.symm))
    refine ⟨b, eb, ?_⟩
    exact rb.move (upd_ne ne) fun q => q.imp (fun _ _ q => q) tm fm
theorem app_ok {t : T} {x : V} {ds : List D} {vs : List V} {Q : VK} (rs : RS g ι s H) (rt : RT g ι H t x) (rd : RDs g ι H ds vs) (w : Wp g W (rlT g) σ ι H (appT t ds s) Q) : rAppend x vs H Q := by
  cases t with
  | l _ => exact w.elim
  | v d => cases d with
    | loc n =>
      match ds, rd, w with
      | [], _, w => exact w.elim
      | _ :: _ :: _, _, w => exact w.elim
      | [d], rd, w =>
        obtain ⟨y, rfl, ry⟩ := RDs.one rd
        have w : Wp g W (rlT g) σ ι H (match s[n]? with
          | some (.lst xs) => if xs.length < LIM then .ok (.v .non) (s.set n (.lst (xs ++ [d]))) else .bad
          | _ => .bad) Q := w
        cases hs : s[n]? with
        | none => rw [hs] at w; exact w.elim
        | some o =>
          cases o with
          | lst xs =>
            rw [hs] at w
            simp only at w
            split at w
            · rename_i hl
              obtain ⟨a, ws, rfl, ha, hv, dv⟩ := loc_at rs rt hs
              obtain ⟨rs2, x2⟩ := rs.put (ys := xs ++ [d]) (ws := ws ++ [y]) hs ha hv (dv.append (.cons ry .nil))
              exact ⟨a, ws, y, rfl, rfl, hv, by rw [← dv.length, sizeLine_eq]; exact hl, w ι _ .non x2 rs2 (rlT.v .non)⟩
            · exact w.elim
          | _ => rw [hs] at w; exact w.elim
    | _ => exact w.elim
theorem ext_ok {t : T} {x : V} {ts : List T} {vs : List V} {Q : VK} (rs : RS g ι s H) (rt : RT g ι H t x) (rd : RTs g ι H ts vs) (w : Wp g W (rlT g) σ ι H (meT .ext t ts s) Q) : rExtend x vs H Q := by
  cases t with
  | l _ => exact w.elim
  | v d => cases d with
    | loc n =>
      match ts, rd, w with
      | [], _, w => exact w.elim
      | _ :: _ :: _, _, w => exact w.elim
      | [y], rd, w =>
        obtain ⟨z, rfl, rz⟩ := RTs.one rd
        have w : Wp g W (rlT g) σ ι H (match s[n]?, mlstOf y s with
          | some (.lst xs), some ys => if xs.length + ys.length ≤ LIM then .ok (.v .non) (s.set n (.lst (xs ++ ys))) else .bad
          | _, _ => .bad) Q := w
        cases hs : s[n]? with
        | none => rw [hs] at w; exact w.elim
        | some o =>
          cases o with
          | lst xs =>
            rw [hs] at w
            cases hy : mlstOf y s with
            | none => rw [hy] at w; exact w.elim
            | some ys =>
              rw [hy] at w
              simp only at w
              split at w
              · rename_i hl
                obtain ⟨a, ws, rfl, ha, hv, dv⟩ := loc_at rs rt hs
                obtain ⟨b, us, rfl, hb, db⟩ := mlst_ok rs rz hy
                obtain ⟨rs2, x2⟩ := rs.put (ys := xs ++ ys) (ws := ws ++ us) hs ha hv (dv.append db)
                exact ⟨a, b, ws, us, rfl, rfl, hv, hb, by rw [← dv.length, ← db.length, sizeLine_eq]; exact hl, w ι _ .non x2 rs2 (rlT.v .non)⟩
              · exact w.elim
          | _ => rw [hs] at w; exact w.elim
    | _ => exact w.elim
theorem pop_ok {t : T} {x : V} {Q : VK} (rs : RS g ι s H) (rt : RT g ι H t x) (w : Wp g W (rlT g) σ ι H (meT .pop t [] s) Q) : rPop x [] H Q := by
  cases t with
  | l _ => exact w.elim
  | v d => cases d with
    | loc n =>
      have w : Wp g W (rlT g) σ ι H (match s[n]? with
        | some (.lst xs) => (match xs[xs.length - 1]? with
          | some y => .ok (.v y) (s.set n (.lst xs.dropLast))
          | none => .bad)
        | _ => .bad) Q := w
      cases hs : s[n]? with
      | none => rw [hs] at w; exact w.elim
      | some o =>
        cases o with
        | lst xs =>
          rw [hs] at w
          cases hy : xs[xs.length - 1]? with
          | none => simp only [hy] at w; exact w.elim
          | some y =>
            simp only [hy] at w
            obtain ⟨a, ws, rfl, ha, hv, dv⟩ := loc_at rs rt hs
            obtain ⟨rs2, x2⟩ := rs.put (ys := xs.dropLast) (ws := ws.dropLast) hs ha hv dv.dropLast
            obtain ⟨v, ev, rv⟩ := dv.get hy
            exact ⟨a, ws, v, rfl, rfl, hv, by rw [← dv.length]; exact ev, w ι _ v x2 rs2 (rlT.v (rv.ext rs x2))⟩
        | _ => rw [hs] at w; exact w.elim
    | _ => exact w.elim
theorem me_idx (t : T) (ts : List T) (s : Sto) : meT .idx t ts s = (match ts with
    | [.v y] => (match lstOf t s with | some xs => ofO (idxD xs y) s | none => .bad)
    | _ => .bad) := by
  rcases ts with _ | ⟨_ | _, _ | ⟨_, _⟩⟩ <;> cases t with
    | l _ => rfl
    | v d => cases d <;> rfl
theorem mix_ok (hK : X.K = g.K) {t : T} {x : V} {ts : List T} {vs : List V} {Q : VK} (rs : RS g ι s H) (rt : RT g ι H t x) (rd : RTs g ι H ts vs) (w : Wp g W (rlT g) σ ι H (meT .idx t ts s) Q) :
    rIndex X.K x vs H Q ∨ rIndexD X.K x vs H Q := by
  rw [me_idx] at w
  match ts, rd, w with
  | [], _, w => exact w.elim
  | .v _ :: _ :: _, _, w => exact w.elim
  | .l _ :: _, _, w => exact w.elim
  | [.v y], rd, w =>
    obtain ⟨z, rfl, rz⟩ := RTs.one rd
    have w : Wp g W (rlT g) σ ι H (match lstOf t s with
      | some xs => ofO (idxD xs y) s
      | none => .bad) Q := w
    cases hx : lstOf t s with
    | none => rw [hx] at w; exact w.elim
    | some xs =>
      rw [hx] at w
      obtain ⟨a, ws, rfl, hl, dv⟩ := lst_ok rs rt hx
      obtain ⟨r, e, q⟩ := w.opt
      have rd1 : RD g ι H y z := by cases rz with | v q => exact q
      rw [hK]
      unfold idxD at e
      split at e
      · rename_i hf
        simp only [Bool.and_eq_true] at hf
        simp only [Option.map_eq_some_iff] at e
        obtain ⟨j, ej, rfl⟩ := e
        obtain ⟨hj, h1, h2⟩ := List.findIdx?_eq_some_iff_getElem.mp ej
        obtain ⟨v, ev, rv⟩ := dv.get (List.getElem?_eq_getElem hj)
        have fx : ∀ i (hi : i < xs.length), flat xs[i] = true := fun i hi => List.all_eq_true.mp hf.2 _ (List.getElem_mem hi)
        refine .inl ⟨a, ws, z, j, v, rfl, rfl, hl, flat_of rd1 hf.1, flats_of dv hf.2, ev, ?_, fun m z' hm em => ?_, q ι H _ Ext.refl rs (rlT.v (.int _))⟩
        · rw [eqF_of rv rd1 (fx j hj) hf.1]
          exact h1
        · obtain ⟨d, ed, rd'⟩ := dv.get' em
          obtain ⟨hm', e2⟩ := List.getElem?_eq_some_iff.mp ed
          subst e2
          rw [eqF_of rd' rd1 (fx m hm') hf.1]
          have := h2 m hm
          simpa using this
      · cases ed : D.py y with
        | none => rw [ed] at e; cases e
        | some d =>
          cases eds : D.pys xs with
          | none => rw [ed, eds] at e; cases e
          | some ds =>
            rw [ed, eds] at e
            simp only [Option.bind_some] at e
            split at e
            · rename_i hs
              simp only [Bool.and_eq_true] at hs
              simp only [Option.map_eq_some_iff] at e
              obtain ⟨j, ej, rfl⟩ := e
              obtain ⟨hj, h1, h2⟩ := List.findIdx?_eq_some_iff_getElem.mp ej
              refine .inr ⟨a, z, d, ds, j, ds[j], rfl, rfl, ?_, dp_of rd1 ed, hs.2, hs.1, List.getElem?_eq_getElem hj, h1, fun m z' hm em => ?_, q ι H _ Ext.refl rs (rlT.v (.int _))⟩
              · exact .lst hl (dps_of dv eds)
              · obtain ⟨hm', e2⟩ := List.getElem?_eq_some_iff.mp em
                subst e2
                have := h2 m hm
                simpa using this
            · cases e
/-- what a list's method needs to be called -/
theorem isLst_some {t u : T} (e : isLst t s = some u) : u = t ∧ ∃ xs, lstOf t s = some xs := by
  unfold isLst at e
  simp only [Option.map_eq_some_iff] at e
  obtain ⟨xs, e1, rfl⟩ := e
  exact ⟨rfl, xs, e1⟩
theorem tyV_lst (hK : X.K = g.K) {t : T} {x : V} {xs : List D} (rs : RS g ι s H) (rt : RT g ι H t x) (e : lstOf t s = some xs) : tyV X.K "list" x H := by
  obtain ⟨a, vs, rfl, h, _⟩ := lst_ok rs rt e
  rw [hK]
  exact .inl ⟨rfl, vs, h⟩
theorem base_of {o : Expr} (h : baseE o = true) (name : Str) (env : PySem.Env) : attributeBase o name env (eval o env) = eval o env := by
  cases o <;> first | rfl | (simp [baseE] at h)
theorem pe_app_ {fs : Env → Sto → R (List D)} {o e : Expr} {apos cpos : Pos} (hK : X.K = g.K) (ho : PE X o (tE g W fa)) (ha : PA X [e] (tA g W fs)) (hb : baseE o = true) (he : notStar e = true) (hl : (apos.endLine == cpos.line) = true) :
    PE X (.Call (.Attribute o "append" apos) [e] [] cpos) (tE g W fun ρ s => (fa ρ s).bind fun t s => (ofO (isLst t s) s).bind fun t s => (fs ρ s).bind fun ds s => appT t ds s) := by
  have hse := star_of he [] X.env
  refine PE.imp (pe_bm PySem.F.plainAttrs_list PySem.F.slot_list_append PySem.F.type_list_append mt_append ho ha (base_of hb _ _) (by rw [hse]; rfl) hl hse rfl) fun σ H Q ⟨ι, ρ, s, re, rs, w⟩ => ⟨ι, ρ, s, re, rs, Wp.step (RA := rlT g) w fun t s1 ι1 H1 b x1 rs1 r1 w1 => ?_⟩
  cases e1 : isLst t s1 with
  | none => rw [e1] at w1; exact w1.elim
  | some u =>
    rw [e1] at w1
    obtain ⟨rfl, xs, e2⟩ := isLst_some e1
    refine ⟨tyV_lst hK rs1 r1.1 e2, ι1, ρ, s1, re.ext rs x1, rs1, Wp.step (RA := rlDs g) w1 fun ds s2 ι2 H2 vs x2 rs2 r2 w2 => ?_⟩
    exact app_ok rs2 (r1.1.ext rs1 x2) r2 w2
theorem pe_ext_ {fs : Env → Sto → R (List T)} {o e : Expr} {apos cpos : Pos} (hK : X.K = g.K) (ho : PE X o (tE g W fa)) (ha : PA X [e] (tAT g W fs)) (hb : baseE o = true) (he : notStar e = true) (hl : (apos.endLine == cpos.line) = true) :
    PE X (.Call (.Attribute o "extend" apos) [e] [] cpos) (tE g W fun ρ s => (fa ρ s).bind fun t s => (ofO (isLst t s) s).bind fun t s => (fs ρ s).bind fun ds s => meT .ext t ds s) := by
  have hse := star_of he [] X.env
  refine PE.imp (pe_bm PySem.F.plainAttrs_list PySem.F.slot_list_extend PySem.F.type_list_extend mt_extend ho ha (base_of hb _ _) (by rw [hse]; rfl) hl hse rfl) fun σ H Q ⟨ι, ρ, s, re, rs, w⟩ => ⟨ι, ρ, s, re, rs, Wp.step (RA := rlT g) w fun t s1 ι1 H1 b x1 rs1 r1 w1 => ?_⟩
  cases e1 : isLst t s1 with
  | none => rw [e1] at w1; exact w1.elim
  | some u =>
    rw [e1] at w1
    obtain ⟨rfl, xs, e2⟩ := isLst_some e1
    refine ⟨tyV_lst hK rs1 r1.1 e2, ι1, ρ, s1, re.ext rs x1, rs1, Wp.step (RA := rlTs g) w1 fun ds s2 ι2 H2 vs x2 rs2 r2 w2 => ?_⟩
    exact ext_ok rs2 (r1.1.ext rs1 x2) r2 w2
theorem pe_idx2_ {fs : Env → Sto → R (List T)} {o e : Expr} {apos cpos : Pos} (hK : X.K = g.K) (hu : X.A.units + 65 < cLine) (ho : PE X o (tE g W fa)) (ha : PA X [e] (tAT g W fs)) (hb : baseE o = true) (he : notStar e = true) (hl : (apos.endLine == cpos.line) = true) :
    PE X (.Call (.Attribute o "index" apos) [e] [] cpos) (tE g W fun ρ s => (fa ρ s).bind fun t s => (ofO (isLst t s) s).bind fun t s => (fs ρ s).bind fun ds s => meT .idx t ds s) := by
  have hse := star_of he [] X.env
  have hm : MtR X "list.index" (fun x xs H Q => rIndex X.K x xs H Q ∨ rIndexD X.K x xs H Q) := fun pins s σ H x xs v us Q I rx rxs h => h.elim (mt_index pins s σ H x xs v us Q I rx rxs) (mt_indexD hu pins s σ H x xs v us Q I rx rxs)
  refine PE.imp (pe_bm PySem.F.plainAttrs_list PySem.F.slot_list_index PySem.F.type_list_index hm ho ha (base_of hb _ _) (by rw [hse]; rfl) hl hse rfl) fun σ H Q ⟨ι, ρ, s, re, rs, w⟩ => ⟨ι, ρ, s, re, rs, Wp.step (RA := rlT g) w fun t s1 ι1 H1 b x1 rs1 r1 w1 => ?_⟩
  cases e1 : isLst t s1 with
  | none => rw [e1] at w1; exact w1.elim
  | some u =>
    rw [e1] at w1
    obtain ⟨rfl, xs, e2⟩ := isLst_some e1
    refine ⟨tyV_lst hK rs1 r1.1 e2, ι1, ρ, s1, re.ext rs x1, rs1, Wp.step (RA := rlTs g) w1 fun ds s2 ι2 H2 vs x2 rs2 r2 w2 => ?_⟩
    exact mix_ok hK rs2 (r1.1.ext rs1 x2) r2 w2
theorem pe_pop_ {o : Expr} {apos cpos : Pos} (hK : X.K = g.K) (ho : PE X o (tE g W fa)) (hb : baseE o = true) (hl : (apos.endLine == cpos.line) = true) :
    PE X (.Call (.Attribute o "pop" apos) [] [] cpos) (tE g W fun ρ s => (fa ρ s).bind fun t s => (ofO (isLst t s) s).bind fun t s => (bNil ρ s).bind fun ds s => meT .pop t ds s) := by
  refine PE.imp (pe_bm0 PySem.F.plainAttrs_list PySem.F.slot_list_pop PySem.F.type_list_pop mt_pop ho (base_of hb _ _) hl) fun σ H Q ⟨ι, ρ, s, re, rs, w⟩ => ⟨ι, ρ, s, re, rs, Wp.step (RA := rlT g) w fun t s1 ι1 H1 b x1 rs1 r1 w1 => ?_⟩
  cases e1 : isLst t s1 with
  | none => rw [e1] at w1; exact w1.elim
  | some u =>
    rw [e1] at w1
    obtain ⟨rfl, xs, e2⟩ := isLst_some e1
    exact ⟨tyV_lst hK rs1 r1.1 e2, pop_ok rs1 r1.1 w1⟩
end
end Fy
end
section
set_option Elab.async false
set_option linter.all false
set_option maxRecDepth 100000
set_option maxHeartbeats 2000000
/-! Fz4: try: work() .. return None / except C as e: return e.at. -/
namespace Fy
open PySem PySem.Spec PyProof.Rows L2 LamX
/-- what such a def tells of what it got -/
def THeard (K : PySem.W.Frag) (CS : Addr) : (XK → Hp → VK → Prop) → Hp → VK → Prop := fun tl H Q =>
  tl (fun cls d H' => ∃ b, PySem.W.exmOne K cls (.ref CS) = some b ∧ (b = true → cls = .ref CS ∧ ∃ (dd : Addr) (fs : List (Str × V)) (v : V), d = some dd ∧ H' dd = some (.xd fs) ∧ fs.lookup ("at" : Str) = some v ∧ Q v H') ∧ (b = false → False)) H fun _ H' => Q .non H'
theorem takes_len {X : Cx} {W : WX} (tk : Takes X W) : Takes X (fun c d σ H => σ.length = X.N.length → W c d σ H) := fun u s' ⟨a, B, sI, pins, σ, H, cls, d, e, I, nb, up, sky, na, os, ag, w⟩ =>
  tk u s' ⟨a, B, sI, pins, σ, H, cls, d, e, I, nb, up, sky, na, os, ag, w I.len⟩
theorem heard_gives {X : Cx} {Ng : List Str} {x a e n q : Str} {sg : Scope} {g CS : Addr} {cdg : Value} {i j : Nat} {p1 p2 p3 p4 p5 p6 p7 p8 p9 p10 p11 : Pos} (hge : sg.names.lookup e = some .globalImplicit) (hme : X.mg e = some (.ref CS)) (hde : (e == ("__debug__" : Str)) = false)
    (h0 : ∀ f : Addr, (L2.start Ng [V.ref f])[0]? = some (some (V.ref f))) (hN : Ng.Nodup) (hi : Ng[i]? = some n) (hln : sg.names.lookup n = some .local) (hnd : (n == ("__debug__" : Str)) = false) (hnc : (n == ("__classdict__" : Str)) = false)
    (T : XfC X.K CS) (hno : PySem.W.findIn X.K (.ref CS) "at" = some none) (hk : sg.kind = .function) :
    GivesTo X Ng x sg g cdg [.Try [.Expr (.Call (.Name a p1) [] [] p2) p3, .Return (some (.Constant .none j p4)) p5] [.ExceptHandler (some (.Name e p6)) (some n) [.Return (some (.Attribute (.Name n p7) "at" p8)) p9] p10] [] [] p11] a q (THeard X.K CS) := by
  intro f c' s H Q tl act hc h
  have hgl : Gl (cxOf C8.CX0 X.prog X.w X.K X.mg X.base Ng x sg g cdg X.A X.stack s H C8.E0).nox e := hge
  have hsuit : ∀ (a : Addr) (oe : Obj) (cls : Value) (d : Option Addr) (pn : List (Addr × Obj)), Zc cls d oe → (∃ vs, oe.data = .fields vs) →
      PSs ((cxOf C8.CX0 X.prog X.w X.K X.mg X.base Ng x sg g cdg X.A X.stack s H C8.E0).nox.suite a ((a, oe) :: pn)) [.Return (some (.Attribute (.Name n p7) "at" p8)) p9] _ := fun a oe cls d pn hz hf =>
    pss_one (ps_ret (pe_xf (X := (cxOf C8.CX0 X.prog X.w X.K X.mg X.base Ng x sg g cdg X.A X.stack s H C8.E0).nox) (C := CS) (cls := cls) (d := d) T hno hz hf (pe_var (i := i) hi (.inl hln) hnd hnc) rfl))
  refine ⟨_, pss_one (ps_try_as (X := (cxOf C8.CX0 X.prog X.w X.K X.mg X.base Ng x sg g cdg X.A X.stack s H C8.E0).nox) (c := .ref CS) (i := i)
      (tb := fun W D σ H => ∃ Ech : XK, (∀ cls d (σ' : L2.St) H', Ech cls d H' → σ'.length = Ng.length → W cls d σ' H') ∧ σ[0]? = some (some (.ref f)) ∧ H c' = some (CodeO c' q) ∧ tl Ech H fun _ H' => D.rt .non H')
      rfl rfl hN hi hln ⟨hgl, hde, .inl hme⟩ L2.takes0 (fun W pn xe tk _ => ?_) hsuit), ?_⟩
  · refine ⟨fun pins s' σ H' D I ⟨Ech, hW, h1, h2, h3⟩ => ?_⟩
    have hp := act _ pn xe Ech p1 p2 (takes_len tk) hW
    have hq := pss_cons (ps_expr (pos := p3) hp rfl) (pss_one (ps_ret (pos := p5) (pe_non (j := j) (pos := p4))))
    exact hq.run pins s' σ H' D I ⟨h1, h2, h3⟩
  · refine ⟨_, fun cls d σ' H' ⟨b, e1, e2, e3⟩ hl => ⟨b, e1, fun hb a' ha' => ?_, fun hb => e3 hb⟩, h0 f, hc, h⟩
    obtain ⟨ec, dd, fs, v, ed, e4, e5, qq⟩ := e2 hb
    have hlt : i < σ'.length := by rw [hl]; exact (List.getElem?_eq_some_iff.mp hi).1
    exact ⟨.ref a', by rw [List.getElem?_set_self hlt], rfl, ec, dd, fs, v, ed, e4, e5, qq⟩
end Fy
end
section
set_option Elab.async false
set_option linter.all false
set_option maxRecDepth 100000
set_option maxHeartbeats 2000000
/-! Fz5: x(lambda: e), where x tells what it heard. -/
namespace Fy
open PySem PySem.Spec PyProof.Rows L2 LamX
section
variable {g : Glo} {W : WX} {X : Cx}
theorem ext_of {H H1 : Hp} {ι : List Addr} (e : ExtN H H1) : Ext ι H ι H1 := ⟨List.prefix_refl _, fun b o h _ k => e b o h (nt_ne k), fun _ m n => absurd m n⟩
theorem pe_heard_ {k : Nat} {x c : Str} {fe : Env → Sto → R T} {params : Arguments} {body : Expr} {scope : Scope} {p lpos pos : Pos} (hK : X.K = g.K) (D : Deep g k X) (hd : HdOk g X.mg x c) (hg : Gl X x) (hp : noPar params = true) (L : LamS X.env.scope scope)
    (hb : ∀ (A : Around) (outer : List PySem.Env) (s : Shared) (H : Hp) (E : XK) (f c' : Addr), Room (3 * k + 2) (A.deeper (lamEnv X scope s.heap.objs.size f c')) → PE (lamCx X A outer s H E scope f c') body (tE g (fun c d _ H => E c d H) fe)) :
    PE X (.Call (.Name x p) [.Lambda params body scope lpos] [] pos) (tE g W (heardF c fe)) := by
  obtain ⟨fa, CS, pg, sg, dV, kV, doc, pm, cdv, ct, oc, an, od, osl, Ng, a, n, i, j, p1, p2, p3, p4, p5, p6, p7, p8, p9, p10, p11, hm, hk, lk, hcg, hbd, Sg, hN0, hva, hi, hln, hgc, hmc, hga, T, hno, d1, d2, d3, d4, d5, d6, hex, hst⟩ := hd.ok
  obtain ⟨co, Pt, TB, hcode, hmT, hu⟩ := D.tab
  have hpar : params = ⟨[], [], none, [], [], none, []⟩ := by
    unfold noPar at hp
    split at hp
    · rfl
    · cases hp
  subst hpar
  have key := pe_lamcall (T := g.T) (TT := THeard X.K CS) (k := 3 * k + 2) (params := ⟨[], [], none, [], [], none, []⟩) (t := fun E => tE g (fun c d _ H => E c d H) fe) (p := p) (lpos := lpos) (pos := pos) hg hm (hK ▸ hk) (hK ▸ lk) (hK ▸ hcg) (hK ▸ hbd) Sg hN0 hva
    (heard_gives (X := X) (q := X.env.qual ++ "<lambda>") hgc hmc d1 hst Sg.nd hi hln d2 d3 (hK ▸ T) (hK ▸ hno) Sg.kind) TB hcode hmT hu D.room L rfl (fun _ _ _ _ _ => rfl) hb d6 d4 d5
  refine PE.imp key fun σ H Q ⟨ι, ρ, s, re, rs, w⟩ => ⟨rs.tb, fun H1 eN T1 => ?_⟩
  have x1 : Ext ι H ι H1 := ext_of eN
  have k1 : ∀ b, b ∈ ι → H1 b = H b := fun b m => by
    obtain ⟨u, e, ku⟩ := rs.kind m
    rw [e]
    exact eN b u e (fun ps z => by rw [z] at ku; cases ku)
  refine ⟨ι, ρ, s, re.ext rs x1, rs.ext x1 k1 T1, ?_⟩
  unfold heardF at w
  cases hf : fe ρ s with
  | ok t s' =>
    rw [hf] at w
    exact fun ι' H' b x2 rs2 r2 => w ι' H' .non (x1.trans x2) rs2 (rlT.v .non)
  | ex y s' =>
    rw [hf] at w
    simp only at w
    split at w
    · rename_i hc
      intro ι' H' cv d x2 rs2 rx
      obtain ⟨ec, dx, v, ed, ex, rv⟩ := rx
      have ecv : cv = .ref CS := by rw [ec, hc, hga]
      refine ⟨true, by rw [ecv, hK]; exact hex, fun _ => ⟨ecv, dx, [("at", v)], v, ed, ex, ?_, w ι' H' v (x1.trans x2) rs2 (rlT.v rv)⟩, fun z => by cases z⟩
      simp [List.lookup]
    · exact w.elim
  | bad => rw [hf] at w; exact w.elim
end
end Fy
end
section
set_option Elab.async false
set_option linter.all false
set_option maxRecDepth 100000
set_option maxHeartbeats 4000000
/-! Fz7: new dicts; get. -/
namespace Fy
open PySem PySem.Spec PyProof.Rows L2
section
variable {g : Glo} {W : WX} {X : Cx} {σ : L2.St} {ι ι1 ι' : List Addr} {H H1 H' : Hp} {s s' : Sto} {fa fb fc : Env → Sto → R T} {ρ : Env}
theorem tabs_sto {T : List (Addr × Str)} {a : Addr} {w u : HO} (h : H a = some w) (k : stoKind w = true) (t : LamX.Tabs T H) : LamX.Tabs T (L2.upd H a u) := fun p hp => by
  obtain ⟨ps, h1, h2, h3⟩ := t p hp
  have ne : ∀ {b : Addr} {o : HO}, H b = some o → stoKind o = false → b ≠ a := fun {b o} e z q => by
    subst q
    rw [h] at e; cases e
    rw [k] at z; cases z
  refine ⟨ps, by rw [upd_ne (ne h1 rfl)]; exact h1, h2, fun pos cv hc => ?_⟩
  obtain ⟨c, e1, e2⟩ := h3 pos cv hc
  exact ⟨c, e1, by rw [upd_ne (ne e2 rfl)]; exact e2⟩
theorem sto_ne {a b : Addr} {w o : HO} (h : H a = some w) (k : stoKind w = true) (e : H b = some o) (z : stoKind o = false) : b ≠ a := by
  rintro rfl
  rw [h] at e; cases e
  rw [k] at z; cases z
theorem RD.sto {a : Addr} {w u : HO} (h : H a = some w) (k : stoKind w = true) {d : Fy.D} {v : V} (r : RD g ι H d v) : RD g ι (L2.upd H a u) d v :=
  r.imp (fun _ _ q => q) (fun b vs q => by
    rcases q with q | ⟨o, q⟩
    · exact .inl (by rw [upd_ne (sto_ne h k q rfl)]; exact q)
    · exact .inr ⟨o, by rw [upd_ne (sto_ne h k q rfl)]; exact q⟩) fun b o vs q => by rw [upd_ne (sto_ne h k q rfl)]; exact q
/-- what stands in the store is changed -/
theorem RS.chg {n : Nat} {a : Addr} {w u : HO} {o : O} (rs : RS g ι s H) (hn : n < s.length) (ha : ι[n]? = some a) (hv : H a = some w) (k : stoKind w = true) (r : RO g ι (L2.upd H a u) a o) :
    RS g ι (s.set n o) (L2.upd H a u) ∧ Ext ι H ι (L2.upd H a u) := by
  have x : Ext ι H ι (L2.upd H a u) := ⟨List.prefix_refl _, fun b o e nb _ => by rw [upd_ne (fun q => nb (by rw [q]; exact List.mem_of_getElem? ha))]; exact e, fun _ m nm => absurd m nm⟩
  refine ⟨⟨rs.nd, by simp [rs.len], fun j o' e => ?_, tabs_sto hv k rs.tb⟩, x⟩
  by_cases hj : n = j
  · subst hj
    rw [List.getElem?_set_self hn] at e
    cases e
    exact ⟨a, ha, r⟩
  · rw [List.getElem?_set_ne hj] at e
    obtain ⟨b, eb, rb⟩ := rs.at_ j o' e
    have ne : b ≠ a := by
      rintro rfl
      obtain ⟨l1, e1⟩ := List.getElem?_eq_some_iff.mp ha
      obtain ⟨l2, e2⟩ := List.getElem?_eq_some_iff.mp eb
      exact hj ((List.getElem_inj rs.nd).mp (e1.trans e2.symm))
    exact ⟨b, eb, rb.move (upd_ne ne) fun q => q.sto hv k⟩
/-- a new thing goes into the store -/
theorem RS.more {a : Addr} {o : O} {ι0 : List Addr} {H0 : Hp} (rs : RS g ι s H) (x : Ext ι0 H0 ι H) (n : a ∉ ι) (f : nn H0 a) (r : RO g ι H a o) :
    RS g (ι ++ [a]) (s ++ [o]) H ∧ Ext ι0 H0 (ι ++ [a]) H ∧ RD g (ι ++ [a]) H (.loc s.length) (.ref a) := by
  have more : ∀ (n : Nat) (b : Addr), ι[n]? = some b → (ι ++ [a])[n]? = some b := fun n b h => by
    rw [List.getElem?_append_left (List.getElem?_eq_some_iff.mp h).1]
    exact h
  have mv : ∀ {b : Addr} {o : O}, RO g ι H b o → RO g (ι ++ [a]) H b o := fun q => q.move rfl fun z => z.imp more (fun _ _ h => h) fun _ _ _ h => h
  refine ⟨⟨?_, by simp [rs.len], fun k o' h => ?_, rs.tb⟩, ⟨x.pre.trans (List.prefix_append _ _), x.keep, fun b hb nb => ?_⟩, .loc (by rw [← rs.len]; simp)⟩
  · exact List.nodup_append.mpr ⟨rs.nd, by simp, fun b hb c hc => by
      have ec : c = a := by simpa using hc
      subst ec
      rintro rfl
      exact n hb⟩
  · by_cases hk : k < s.length
    · rw [List.getElem?_append_left hk] at h
      obtain ⟨b, e1, r1⟩ := rs.at_ k o' h
      exact ⟨b, more k b e1, mv r1⟩
    · rw [List.getElem?_append_right (by omega)] at h
      have hk0 : k - s.length = 0 := by
        cases q : k - s.length with
        | zero => rfl
        | succ m => rw [q] at h; simp at h
      rw [hk0] at h
      have eo : o = o' := by simpa using h
      subst eo
      have ek : k = ι.length := by rw [rs.len]; omega
      subst ek
      exact ⟨a, by simp, mv r⟩
  · rcases List.mem_append.mp hb with hb | hb
    · exact x.new b hb nb
    · have eb : b = a := by simpa using hb
      subst eb
      exact f
theorem pe_dnew_ {pos : Pos} : PE X (.Dict [] [] pos) (tE g W fun _ s => .ok (.v (.loc s.length)) (s ++ [.dic false []])) :=
  PE.imp pe_dnewK fun σ H Q ⟨ι, ρ, s, re, rs, w⟩ p hp => by
    have rs1 := rs.upd (o := .dK []) hp
    obtain ⟨rs2, x2, rd⟩ := rs1.more (o := .dic false []) (Ext.upd hp) (rs.free hp) (nn_none hp) ⟨[], upd_same, .nil⟩
    exact w _ _ _ x2 rs2 (rlT.v rd)
theorem Wp.stepA {α β γ δ : Type} {RA : Rl α β} {RB : Rl γ δ} {ι0 : List Addr} {H0 : Hp} {Q : δ → Hp → Prop} {m : R α} {k : α → Sto → R γ} {N : β → Hp → Prop} (h : Wp g W RB σ ι0 H0 (m.bind k) Q) (x0 : Ext ι0 H0 ι H)
    (hk : ∀ a s1 ι1 H1 b, Ext ι H ι1 H1 → RS g ι1 s1 H1 → RA.r H ι1 H1 a b → Wp g W RB σ ι0 H0 (k a s1) Q → N b H1) : Wp g W RA σ ι H m N := by
  cases m with
  | ok a s1 => exact fun ι1 H1 b x rs r => hk a s1 ι1 H1 b x rs r h
  | ex e s' => exact fun ι' H' c d x rs rx => h ι' H' c d (x0.trans x) rs rx
  | bad => exact h
theorem wp_keepA {α β : Type} {RB : Rl α β} {ι0 : List Addr} {H0 : Hp} {Q : β → Hp → Prop} {t : R T} {k : Fy.D → Sto → R α} {N : V → Hp → Prop} (h : Wp g W RB σ ι0 H0 (t.bind fun t s => (keepR t s).bind k) Q) (x0 : Ext ι0 H0 ι H)
    (hk : ∀ d s1 ι1 H1 v, Ext ι H ι1 H1 → RS g ι1 s1 H1 → RD g ι1 H1 d v → Wp g W RB σ ι0 H0 (k d s1) Q → N v H1) : Wp g W (rlT g) σ ι H t N :=
  Wp.stepA (RA := rlT g) h x0 fun t s1 ι1 H1 v x1 rs1 r1 w0 => by
    obtain ⟨ι2, rs2, x2, rd⟩ := keep_ok rs1 x1 r1.1 r1.2
    exact hk _ _ ι2 H1 v x2 rs2 rd w0
theorem pe_dic1_ {k v : Expr} {pos : Pos} (hk : PE X k (tE g W fa)) (hv : PE X v (tE g W fb)) :
    PE X (.Dict [some k] [v] pos) (tE g W fun ρ s => (fa ρ s).bind fun x s => (keepR x s).bind fun k s => (fb ρ s).bind fun y s => (keepR y s).bind fun v s => match dicNew k v s with | some s' => .ok (.v (.loc s.length)) s' | none => .bad) :=
  PE.imp (pe_disp (pps_cons hk hv pps_nil) rfl rfl (by simp) (by simp)) fun σ H Q ⟨ι, ρ, s, re, rs, w⟩ p hp => by
    have x0 := Ext.upd (ι := ι) (o := .dK []) hp
    have np := rs.free hp
    have rs0 := rs.upd (o := .dK []) hp
    refine ⟨ι, ρ, s, re.ext rs x0, rs0, wp_keepA (RB := rlT g) w x0 fun d s1 ι1 H1 u x1 rs1 rd w1 => ?_⟩
    refine ⟨ι1, ρ, s1, (re.ext rs x0).ext rs0 x1, rs1, wp_keepA (RB := rlT g) w1 (x0.trans x1) fun e s2 ι2 H2 z x2 rs2 rd2 w2 => ?_⟩
    have e1 : H1 p = some (.dK []) := x1.keep p _ upd_same np rfl
    have np1 : p ∉ ι1 := x1.out upd_same np
    have e2 : H2 p = some (.dK []) := x2.keep p _ e1 np1 rfl
    have np2 : p ∉ ι2 := x2.out e1 np1
    cases hd : dicNew d e s2 with
    | none => rw [hd] at w2; exact w2.elim
    | some s3 =>
      rw [hd] at w2
      simp only [dicNew, dkey, Bool.false_eq_true, if_false, Option.map_eq_some_iff] at hd
      obtain ⟨_, ⟨k', ek, rfl⟩, rfl⟩ := hd
      have eu : u = kV k' := dkA_ok (rd.ext rs1 x2) ek
      subst eu
      refine ⟨e2, [(k', z)], rfl, by simp, ?_⟩
      have mk : mergeK [] [(k', z)] = [(k', z)] := rfl
      rw [mk]
      have rs3 : RS g ι2 s2 (L2.upd H2 p (.dK [(k', z)])) := by
        refine ⟨rs2.nd, rs2.len, fun n o q => ?_, tabs_sto e2 rfl rs2.tb⟩
        obtain ⟨a, ea, ro⟩ := rs2.at_ n o q
        have ne : a ≠ p := fun y => np2 (y ▸ List.mem_of_getElem? ea)
        exact ⟨a, ea, ro.move (upd_ne ne) fun z => z.sto e2 rfl⟩
      have x02 := x0.trans (x1.trans x2)
      have x03 : Ext ι H ι2 (L2.upd H2 p (.dK [(k', z)])) :=
        ⟨x02.pre, fun b o q nb hq => by rw [upd_ne (ne_of_none q hp)]; exact x02.keep b o q nb hq, x02.new⟩
      obtain ⟨rs4, x4, rd4⟩ := rs3.more (o := .dic false [([k'], e)]) x03 np2 (nn_none hp) ⟨[(k', z)], upd_same, .cons ⟨rfl, rd2.sto e2 rfl⟩ .nil⟩
      exact w2 _ _ _ x4 rs4 (rlT.v rd4)
/-- a.get(k, e) -/
theorem pe_dget2_ {o k e : Expr} {apos cpos : Pos} (hu : X.A.units + 65 < cLine) (ho : PE X o (tE g W fa)) (hk : PE X k (tE g W fb)) (he : PE X e (tE g W fc)) (m : M2 X o "get" apos k e cpos) :
    PE X (.Call (.Attribute o "get" apos) [k, e] [] cpos) (tE g W fun ρ s => (fa ρ s).bind fun x s => if isDic x s then (fb ρ s).bind fun y s => (fc ρ s).bind fun z s => (keepR z s).bind fun z s => ofO ((dicAt x y s).map fun o => .v (o.getD z)) s else .bad) :=
  PE.imp (pe_dget2 (by omega) ho hk he m) fun σ H Q ⟨ι, ρ, s, re, rs, w⟩ => ⟨ι, ρ, s, re, rs, Wp.step (RA := rlT g) w fun x s1 ι1 H1 v x1 rs1 r1 w1 => by
    split at w1
    · rename_i hd
      obtain ⟨a, ea, isd⟩ : ∃ a, v = .ref a ∧ IsD H1 a := by
        unfold isDic at hd
        split at hd
        · rename_i n
          split at hd
          · rename_i t kvs hn
            cases r1.1 with
            | v r1 => cases r1 with
              | @loc _ a q =>
                obtain ⟨b, e1, ro⟩ := rs1.at_ n _ hn
                have eb : b = a := by rw [q] at e1; exact (Option.some.inj e1).symm
                subst eb
                cases t with
                | true => obtain ⟨vk, e2, _⟩ := ro; exact ⟨b, rfl, .inr ⟨vk, .inl e2⟩⟩
                | false => obtain ⟨vk, e2, _⟩ := ro; exact ⟨b, rfl, .inl ⟨vk, .inl e2⟩⟩
          · cases hd
        · cases hd
      refine ⟨a, ea, isd, ι1, ρ, s1, re.ext rs x1, rs1, Wp.step (RA := rlT g) w1 fun y s2 ι2 H2 u x2 rs2 r2 w2 => ?_⟩
      refine ⟨ι2, ρ, s2, (re.ext rs x1).ext rs1 x2, rs2, wp_keep (RB := rlT g) w2 fun d s3 ι3 H3 z x3 rs3 rd w3 => ?_⟩
      obtain ⟨t, et, q⟩ := w3.opt
      simp only [Option.map_eq_some_iff] at et
      obtain ⟨od, eo, rfl⟩ := et
      obtain ⟨a', ov, ea', dg, ro⟩ := dicAt_ok rs3 (r1.1.ext rs1 (x2.trans x3)) (r2.1.ext rs2 x3) eo
      rw [ea] at ea'
      cases ea'
      refine ⟨ov, dg, ?_⟩
      cases od with
      | none =>
        cases ov with
        | none => exact q ι3 H3 z Ext.refl rs3 (rlT.v rd)
        | some _ => exact ro.elim
      | some d' =>
        cases ov with
        | none => exact ro.elim
        | some z' => exact q ι3 H3 z' Ext.refl rs3 (rlT.v ro)
    · exact w1.elim⟩
end
end Fy
end
section
set_option Elab.async false
set_option linter.all false
set_option maxRecDepth 100000
set_option maxHeartbeats 4000000
/-! FyB: all expressions together. -/
namespace Fy
open PySem PySem.Spec PyProof.Rows L2
section
variable {g : Glo} {tb : Tab} {wf k : Nat}
theorem evEs_nil (cf : CallF) : evEs cf .nil = aNil := by funext ρ s; rw [evEs.eq_def]; rfl
theorem evEs_cons (cf : CallF) (e : E) (es : Es) : evEs cf (.cons e es) = aCons (evE cf e) (evEs cf es) := by funext ρ s; rw [evEs.eq_def]; rfl
theorem evTs_nil (cf : CallF) : evTs cf .nil = bNil := by funext ρ s; rw [evTs.eq_def]; rfl
theorem evTs_cons (cf : CallF) (e : E) (es : Es) : evTs cf (.cons e es) = bCons (evE cf e) (evTs cf es) := by funext ρ s; rw [evTs.eq_def]; rfl
theorem args_len {tb : Tab} {sc : Scope} {fb : Str → Bool} {N : List Str} {cf : CallF} : ∀ {es : Es} {xs : List Expr}, ckEs tb sc fb N es xs = true → ∀ ρ s ds s', evEs cf es ρ s = .ok ds s' → ds.length = xs.length
  | .nil, [], _, ρ, s, ds, s', h => by
    rw [evEs_nil] at h
    unfold aNil at h
    simp at h
    rw [h.1]; rfl
  | .cons e es, x :: xs, hc, ρ, s, ds, s', h => by
    simp only [ckEs, Bool.and_eq_true] at hc
    rw [evEs_cons] at h
    unfold aCons at h
    cases h1 : evE cf e ρ s with
    | bad => rw [h1] at h; simp at h
    | ex _ _ => rw [h1] at h; simp at h
    | ok t s1 =>
      rw [h1] at h
      simp only [R.bind_ok, keepR] at h
      cases h2 : evEs cf es ρ (t.keep s1).2 with
      | bad => rw [h2] at h; simp at h
      | ex _ _ => rw [h2] at h; simp at h
      | ok ds' s2 =>
        rw [h2] at h
        simp at h
        rw [← h.1, List.length_cons, List.length_cons, args_len hc.2 _ _ _ _ h2]
  | .nil, _ :: _, h, _, _, _, _, _ => by simp [ckEs] at h
  | .cons _ _, [], h, _, _, _, _, _ => by simp [ckEs] at h
theorem scope_blk {X : Cx} {s : Shared} {H : Hp} {scope : Scope} {C : Addr} {cl : List (Str × Addr)} {fp : List Addr} : (X.blk s H scope (compEnvC scope cl C X.env) fp).env.scope = relS scope X.env.scope := rfl
theorem fn_blk {X : Cx} {s : Shared} {H : Hp} {scope : Scope} {C : Addr} {cl : List (Str × Addr)} {fp : List Addr} : (X.blk s H scope (compEnvC scope cl C X.env) fp).fn = fbOf scope := rfl
/-- both readings of an expression -/
def OkE (g : Glo) (W : WX) (X : Cx) (x : Expr) (f : Env → Sto → R T) : Prop := PE X x (tE g W f) ∧ PT X x (tT g W (thr f))
theorem OkE.plain {W : WX} {X : Cx} {x : Expr} {f : Env → Sto → R T} (hK : X.K = g.K) (h : PE X x (tE g W f)) (hp : ∀ whole, PySem.isTrue x X.env whole = (do let v ← whole; standAt x.pos; holding [v] (truthy v))) : OkE g W X x f := ⟨h, pt_of hK h hp⟩
theorem const_ok {W : WX} {X : Cx} {x : Expr} {d : D} {v : V} (h : PE X x (tC v)) (r : ∀ ι H, RD g ι H d v) : PE X x (tE g W fun _ s => .ok (.v d) s) :=
  PE.imp h fun σ H Q ⟨ι, ρ, s, re, rs, w⟩ => w ι H v Ext.refl rs (rlT.v (r ι H))
mutual
theorem okE : ∀ (tb : Tab) (e : E) (x : Expr) (W : WX) (X : Cx), CtxA g tb wf k W X → ckE tb X.env.scope X.fn X.N e x = true → OkE g W X x (evE (run tb wf k) e)
  | tb, .var i, x, W, X, c, h => by
    cases x with
    | Name n p =>
      simp only [ckE, Bool.and_eq_true, decide_eq_true_eq] at h
      obtain ⟨⟨h1, h2⟩, h3⟩ := h
      unfold okNm at h3
      simp only [Bool.and_eq_true, Bool.not_eq_true'] at h3
      refine OkE.plain c.hK ?_ fun _ => rfl
      refine PE.imp (pe_var h1 (visB_ok h2) h3.1 h3.2) fun σ H Q ⟨ι, ρ, s, re, rs, w⟩ => ?_
      simp only [evE] at w
      cases hi : ρ[i]? with
      | none => rw [hi] at w; exact w.elim
      | some o =>
        cases o with
        | none => rw [hi] at w; exact w.elim
        | some d =>
          rw [hi] at w
          obtain ⟨v, e, r⟩ := re.at_ i d hi
          exact ⟨v, e, w ι H v Ext.refl rs (rlT.v r)⟩
    | _ => simp [ckE] at h
  | tb, .int n, x, W, X, c, h => by
    cases x with
    | Constant k j p =>
      cases k with
      | int m =>
        simp only [ckE, decide_eq_true_eq] at h
        subst h
        exact OkE.plain c.hK (const_ok pe_int fun _ _ => .int _) fun _ => rfl
      | _ => simp [ckE] at h
    | _ => simp [ckE] at h
  | tb, .bl n, x, W, X, c, h => by
    cases x with
    | Constant k j p =>
      cases k with
      | bool m =>
        have h' : n = m := by simpa [ckE] using h
        subst h'
        exact OkE.plain c.hK (const_ok pe_bl fun _ _ => .bl _) fun _ => rfl
      | _ => simp [ckE] at h
    | _ => simp [ckE] at h
  | tb, .non, x, W, X, c, h => by
    cases x with
    | Constant k j p =>
      cases k with
      | none => exact OkE.plain c.hK (const_ok pe_non fun _ _ => .non) fun _ => rfl
      | _ => simp [ckE] at h
    | _ => simp [ckE] at h
  | tb, .str n, x, W, X, c, h => by
    cases x with
    | Constant k j p =>
      cases k with
      | str m =>
        simp only [ckE, decide_eq_true_eq] at h
        subst h
        exact OkE.plain c.hK (const_ok pe_str fun _ _ => .str _) fun _ => rfl
      | _ => simp [ckE] at h
    | _ => simp [ckE] at h
  | tb, .tyn n t, x, W, X, c, h => by
    cases x with
    | Name m p =>
      simp only [ckE, Bool.and_eq_true, decide_eq_true_eq] at h
      obtain ⟨⟨rfl, h2⟩, h3⟩ := h
      have hn := tyNot _ h3
      exact OkE.plain c.hK (const_ok (pe_bltn (glB_ok h2) (c.mgT _ h3) (tyBoot _ h3) (show RelV (.ty t) (.type t) from rfl) hn.1 hn.2) fun _ _ => .ty _) fun _ => rfl
    | _ => simp [ckE] at h
  | tb, .con n d, x, W, X, c, h => by
    cases x with
    | Name m p =>
      simp only [ckE, Bool.and_eq_true, decide_eq_true_eq] at h
      obtain ⟨⟨⟨rfl, h2⟩, h3⟩, h4⟩ := h
      unfold okNm at h3
      simp only [Bool.and_eq_true, Bool.not_eq_true'] at h3
      obtain ⟨u, v, hm, rv, rd⟩ := c.con _ _ h4
      exact OkE.plain c.hK (const_ok (pe_glob (glB_ok h2) hm rv h3.1) rd) fun _ => rfl
    | _ => simp [ckE] at h
  | tb, .bin op a b, x, W, X, c, h => by
    cases x with
    | BinOp l o r p =>
      simp only [ckE, Bool.and_eq_true] at h
      obtain ⟨⟨h1, h2⟩, h3⟩ := h
      rw [opB_ok h1]
      exact OkE.plain c.hK (pe_bin_ c.hK (okE _ a l W X c h2).1 (okE _ b r W X c h3).1) fun _ => rfl
    | _ => simp [ckE] at h
  | tb, .neg a, x, W, X, c, h => by
    cases x with
    | UnaryOp o l p =>
      cases o with
      | USub =>
        have h' : ckE tb X.env.scope X.fn X.N a l = true := by simpa [ckE] using h
        exact OkE.plain c.hK (pe_neg_ (okE _ a l W X c h').1) fun _ => rfl
      | _ => simp [ckE] at h
    | _ => simp [ckE] at h
  | tb, .cmp op a b, x, W, X, c, h => by
    match x, h with
    | .Compare l [o] [r] p, h =>
      simp only [ckE, Bool.and_eq_true] at h
      obtain ⟨⟨h1, h2⟩, h3⟩ := h
      rw [cmpB_ok h1]
      have hu : X.A.units + 65 < cLine := by have := c.room.un; omega
      have hm := nomarks (ck_star h3) (cmpOf op)
      exact ⟨pe_cmp_ c.hK hu (okE _ a l W X c h2).1 (okE _ b r W X c h3).1 hm, pt_cmp_ c.hK hu (okE _ a l W X c h2).1 (okE _ b r W X c h3).1 hm⟩
  | tb, .chain op op' a b d, x, W, X, c, h => by
    match x, h with
    | .Compare l [o, o'] [r, q] p, h =>
      simp only [ckE, Bool.and_eq_true] at h
      obtain ⟨⟨⟨⟨h1, h2⟩, h3⟩, h4⟩, h5⟩ := h
      rw [cmpB_ok h1, cmpB_ok h2]
      have hu : X.A.units + 65 < cLine := by have := c.room.un; omega
      have hm : lastMarks [cmpOf op, cmpOf op'] [r, q] = false := nomarks (ck_star h5) (cmpOf op')
      exact ⟨pe_chain_ c.hK hu (okE _ a l W X c h3).1 (okE _ b r W X c h4).1 (okE _ d q W X c h5).1 hm, pt_chain_ c.hK hu (okE _ a l W X c h3).1 (okE _ b r W X c h4).1 (okE _ d q W X c h5).1 hm⟩
  | tb, .and2 a b, x, W, X, c, h => by
    match x, h with
    | .BoolOp .And (l :: r :: []) p, h =>
      simp only [ckE, Bool.and_eq_true] at h
      obtain ⟨pa, ta⟩ := okE _ a l W X c h.1
      obtain ⟨pb, tb'⟩ := okE _ b r W X c h.2
      exact ⟨pe_and_ c.hK pa (pe_one pb), pw_and_ ta (pw_and1 tb')⟩
    | .BoolOp .And (l :: r :: q :: qs) p, h =>
      simp only [ckE, Bool.and_eq_true] at h
      obtain ⟨pa, ta⟩ := okE _ a l W X c h.1
      obtain ⟨pb, tb'⟩ := okE _ b (.BoolOp .And (r :: q :: qs) p) W X c h.2
      exact ⟨pe_and_ c.hK pa pb, pw_and_ ta (pw_of tb')⟩
  | tb, .or2 a b, x, W, X, c, h => by
    match x, h with
    | .BoolOp .Or (l :: r :: []) p, h =>
      simp only [ckE, Bool.and_eq_true] at h
      obtain ⟨pa, ta⟩ := okE _ a l W X c h.1
      obtain ⟨pb, tb'⟩ := okE _ b r W X c h.2
      exact ⟨pe_or_ c.hK pa (pe_one pb), pw_or_ ta (pw_or1 tb')⟩
    | .BoolOp .Or (l :: r :: q :: qs) p, h =>
      simp only [ckE, Bool.and_eq_true] at h
      obtain ⟨pa, ta⟩ := okE _ a l W X c h.1
      obtain ⟨pb, tb'⟩ := okE _ b (.BoolOp .Or (r :: q :: qs) p) W X c h.2
      exact ⟨pe_or_ c.hK pa pb, pw_or_ ta (pw_of tb')⟩
  | tb, .not1 a, x, W, X, c, h => by
    match x, h with
    | .UnaryOp .Not l p, h =>
      have h' : ckE tb X.env.scope X.fn X.N a l = true := by simpa [ckE] using h
      obtain ⟨pa, ta⟩ := okE _ a l W X c h'
      exact ⟨pe_not_ c.hK pa, pt_not_ ta⟩
  | tb, .ite d a b, x, W, X, c, h => by
    match x, h with
    | .IfExp l r q p, h =>
      simp only [ckE, Bool.and_eq_true] at h
      obtain ⟨⟨h1, h2⟩, h3⟩ := h
      obtain ⟨pc, tc⟩ := okE _ d l W X c h1
      obtain ⟨pa, ta⟩ := okE _ a r W X c h2
      obtain ⟨pb, tb'⟩ := okE _ b q W X c h3
      exact ⟨pe_ite_ tc pa pb, pt_ite_ tc ta tb'⟩
  | tb, .tup es, x, W, X, c, h => by
    match x, h with
    | .Tuple xs n p, h =>
      have h' : ckEs tb X.env.scope X.fn X.N es xs = true := by simpa [ckE] using h
      exact OkE.plain c.hK (pe_tup_ (okEs _ es xs W X c h').1) fun _ => rfl
  | tb, .lst es, x, W, X, c, h => by
    match x, h with
    | .List xs p, h =>
      have h' : ckEs tb X.env.scope X.fn X.N es xs = true := by simpa [ckE] using h
      exact OkE.plain c.hK (pe_lst_ (okEs _ es xs W X c h').1) fun _ => rfl
  | tb, .idx a i, x, W, X, c, h => by
    match x, h with
    | .Subscript l r p, h =>
      have h' : ckE tb X.env.scope X.fn X.N a l = true ∧ ckE tb X.env.scope X.fn X.N i r = true := by
        unfold ckE at h
        simpa using h
      exact OkE.plain c.hK (pe_idx_ c.hK (by have := c.room.un; omega) (okE _ a l W X c h'.1).1 (okE _ i r W X c h'.2).1 (plain_of (ck_star h'.2))) fun _ => rfl
  | tb, .slc a lo hi, x, W, X, c, h => by
    match x, h with
    | .Subscript l (.Slice u v none q) p, h =>
      simp only [ckE, Bool.and_eq_true] at h
      obtain ⟨⟨h1, h2⟩, h3⟩ := h
      exact OkE.plain c.hK (pe_slc_ c.hK (okE _ a l W X c h1).1 (okEo _ lo u W X c h2) (okEo _ hi v W X c h3)) fun _ => rfl
  | tb, .call f es, x, W, X, c, h => by
    match x, h with
    | .Call (.Name n q) (y :: ys) [] p, h =>
      simp only [ckE, Bool.and_eq_true, decide_eq_true_eq] at h
      obtain ⟨⟨⟨⟨rfl, h2⟩, h3⟩, h4⟩, h5⟩ := h
      have hs : starEach (y :: ys) X.env = (false, eval y X.env) :: starEach ys X.env := by
        cases es with
        | nil => simp [ckEs] at h5
        | cons e es =>
          simp only [ckEs, Bool.and_eq_true] at h5
          exact star_of (ck_star h5.1) _ _
      have hpl : (backTo p (starEach ys X.env)).any (·.1) = false := by
        have z := stars h5 p X.env
        rw [hs] at z
        exact z
      exact OkE.plain c.hK (pe_call_ c (glB_ok h2) h3 h4 (okEs _ es (y :: ys) W X c h5).1 (args_len h5) hs hpl) fun _ => rfl
  | tb, .bi f es, x, W, X, c, h => by
    match x, h with
    | .Call (.Name n q) (y :: ys) [] p, h =>
      simp only [ckE, Bool.and_eq_true, decide_eq_true_eq] at h
      obtain ⟨⟨⟨rfl, h2⟩, h3⟩, h5⟩ := h
      have hs : starEach (y :: ys) X.env = (false, eval y X.env) :: starEach ys X.env := by
        cases es with
        | nil => simp [ckEs] at h5
        | cons e es =>
          simp only [ckEs, Bool.and_eq_true] at h5
          exact star_of (ck_star h5.1) _ _
      have hpl : (backTo p (starEach ys X.env)).any (·.1) = false := by
        have z := stars h5 p X.env
        rw [hs] at z
        exact z
      exact OkE.plain c.hK (pe_bi_ c (glB_ok h2) (okEs _ es (y :: ys) W X c h5).2 hs hpl) fun _ => rfl
  | tb, .heard f cn e, x, W, X, c, h => by
    unfold ckE at h
    split at h
    · rename_i r hv
      have e1 := vLamC_some hv
      subst e1
      simp only [Bool.and_eq_true, decide_eq_true_eq] at h
      obtain ⟨⟨⟨⟨⟨⟨rfl, h2⟩, h3⟩, h4⟩, h5⟩, h6⟩, h7⟩ := h
      have L := LamX.lamS_by h6
      refine OkE.plain c.hK ?_ fun _ => rfl
      refine pe_heard_ (k := k) (fe := evE (run tb wf k) e) c.hK (c.deep h3) (c.hds _ _ h4) (glB_ok h2) h5 L fun A outer s H E f c' hr => ?_
      rw [← run_off]
      exact (okE tb.off e _ _ _ (c.lamb L.kind hr) h7).1
    · cases h
  | tb, .dnew, x, W, X, c, h => by
    unfold ckE at h
    split at h
    all_goals first
      | (rename_i e1 e2; cases e1; exact OkE.plain c.hK pe_dnew_ fun _ => rfl)
      | exact OkE.plain c.hK pe_dnew_ fun _ => rfl
      | (rename_i e1; cases e1; done)
      | cases h
  | tb, .dic1 k v, x, W, X, c, h => by
    match x, h with
    | .Dict [some x] [y] p, h =>
      simp only [ckE, Bool.and_eq_true] at h
      exact OkE.plain c.hK (pe_dic1_ (okE _ k x W X c h.1).1 (okE _ v y W X c h.2).1) fun _ => rfl
  | tb, .dget2 a k e, x, W, X, c, h => by
    unfold ckE at h
    split at h
    · rename_i z n ap y w cp hv
      have e1 := vMeth_some hv
      simp only at e1
      subst e1
      simp only [Bool.and_eq_true, decide_eq_true_eq, beq_iff_eq] at h
      obtain ⟨⟨⟨⟨⟨rfl, h2⟩, h3⟩, h4⟩, h5⟩, h6⟩ := h
      have hl : (ap.endLine == cp.line) = true := by simpa using h3
      have s1 := star_of (ck_star h5) [w] X.env
      have s2 := star_of (ck_star h6) [] X.env
      have tr : backTo cp (starEach [y, w] X.env) = [(false, eval y X.env), (false, eval w X.env)] := by rw [s1, s2]; rfl
      refine OkE.plain c.hK ?_ fun _ => rfl
      exact pe_dget2_ (by have := c.room.un; omega) (okE _ a z W X c h4).1 (okE _ k y W X c h5).1 (okE _ e w W X c h6).1 ⟨base_of h2 _ _, by rw [tr]; rfl, hl, tr⟩
    · cases h
  | tb, .app o es, x, W, X, c, h => by
    unfold ckE at h
    split at h
    · rename_i z n ap ys cp hv
      have e1 := vMeth_some hv
      simp only at e1
      subst e1
      simp only [Bool.and_eq_true, decide_eq_true_eq, beq_iff_eq] at h
      obtain ⟨⟨⟨⟨⟨rfl, h2⟩, h3⟩, h4⟩, h5⟩, h6⟩ := h
      obtain ⟨y, rfl⟩ : ∃ y, ys = [y] := by
        match ys, h4 with
        | [y], _ => exact ⟨y, rfl⟩
      have hy : notStar y = true := by
        cases es with
        | nil => simp [ckEs] at h6
        | cons e es =>
          simp only [ckEs, Bool.and_eq_true] at h6
          exact ck_star h6.1
      exact OkE.plain c.hK (pe_app_ c.hK (okE _ o z W X c h5).1 (okEs _ es [y] W X c h6).1 h2 hy (by simpa using h3)) fun _ => rfl
    · cases h
  | tb, .me m o es, x, W, X, c, h => by
    unfold ckE at h
    split at h
    · rename_i z n ap ys cp hv
      have e1 := vMeth_some hv
      simp only at e1
      subst e1
      simp only [Bool.and_eq_true, decide_eq_true_eq, beq_iff_eq] at h
      obtain ⟨⟨⟨⟨⟨rfl, h2⟩, h3⟩, h4⟩, h5⟩, h6⟩ := h
      have hl : (ap.endLine == cp.line) = true := by simpa using h3
      have hu : X.A.units + 65 < cLine := by have := c.room.un; omega
      have ho := (okE _ o z W X c h5).1
      have hes := (okEs _ es ys W X c h6).2
      cases m with
      | pop =>
        have e0 : ys = [] := by simpa [meA] using h4
        subst e0
        cases es with
        | nil =>
          refine OkE.plain c.hK ?_ fun _ => rfl
          have := pe_pop_ (apos := ap) (cpos := cp) c.hK ho h2 hl
          exact this
        | cons e es => simp [ckEs] at h6
      | ext =>
        obtain ⟨y, rfl⟩ : ∃ y, ys = [y] := by
          match ys, h4 with
          | [y], _ => exact ⟨y, rfl⟩
        have hy : notStar y = true := by
          cases es with
          | nil => simp [ckEs] at h6
          | cons e es =>
            simp only [ckEs, Bool.and_eq_true] at h6
            exact ck_star h6.1
        exact OkE.plain c.hK (pe_ext_ c.hK ho hes h2 hy hl) fun _ => rfl
      | idx =>
        obtain ⟨y, rfl⟩ : ∃ y, ys = [y] := by
          match ys, h4 with
          | [y], _ => exact ⟨y, rfl⟩
        have hy : notStar y = true := by
          cases es with
          | nil => simp [ckEs] at h6
          | cons e es =>
            simp only [ckEs, Bool.and_eq_true] at h6
            exact ck_star h6.1
        exact OkE.plain c.hK (pe_idx2_ c.hK hu ho hes h2 hy hl) fun _ => rfl
    · cases h
  | tb, .lc own tg it d e, x, W, X, c, h => by
    match x, h with
    | .ListComp elt [⟨t, i, ifs, 0⟩] scope p, h =>
      simp only [ckE, Bool.and_eq_true] at h
      obtain ⟨⟨⟨⟨⟨h1, h2⟩, h3⟩, h4⟩, h5⟩, h6⟩ := h
      have hsl : ∀ i ∈ tg.slots, i ∈ own.map (·.2) := by simpa using h2
      refine OkE.plain c.hK ?_ fun _ => rfl
      refine PE.imp (pe_lc_ c.hK c.calm c.nd (okIt _ it t i W X c h4).1 (blkOk_by h1) hsl (fun s H C cl fp => okT (X := X.blk s H scope (compEnvC scope cl C X.env) fp) c.hK c.calm c.nd tg t h3)
        (fun s H C cl fp => by have z := okC tb.off d ifs noW _ (c.blk s H scope C cl fp (blkOk_by h1).kind) h5; rw [run_off] at z; exact z) (fun s H C cl fp => by have z := (okE tb.off e elt noW _ (c.blk s H scope C cl fp (blkOk_by h1).kind) h6).1; rw [run_off] at z; exact z) (okIt _ it t i W X c h4).2) fun σ H Q q => ?_
      exact lc_ok hsl q
theorem okEs : ∀ (tb : Tab) (es : Es) (xs : List Expr) (W : WX) (X : Cx), CtxA g tb wf k W X → ckEs tb X.env.scope X.fn X.N es xs = true → PA X xs (tA g W (evEs (run tb wf k) es)) ∧ PA X xs (tAT g W (evTs (run tb wf k) es))
  | tb, .nil, [], W, X, c, h => by
    rw [evEs_nil, evTs_nil]
    exact ⟨pa_nil_, pb_nil_⟩
  | tb, .cons e es, x :: xs, W, X, c, h => by
    simp only [ckEs, Bool.and_eq_true] at h
    rw [evEs_cons, evTs_cons]
    obtain ⟨p1, p2⟩ := okEs _ es xs W X c h.2
    have q := (okE _ e x W X c h.1).1
    have hs := star_of (ck_star h.1) xs X.env
    exact ⟨pa_cons_ q p1 hs, pb_cons_ q p2 hs⟩
  | tb, .nil, _ :: _, _, _, _, h => by simp [ckEs] at h
  | tb, .cons _ _, [], _, _, _, h => by simp [ckEs] at h
theorem okEo : ∀ (tb : Tab) (e : Eo) (x : Option Expr) (W : WX) (X : Cx), CtxA g tb wf k W X → ckEo tb X.env.scope X.fn X.N e x = true → PO X x (tO g W (evEo (run tb wf k) e))
  | tb, .none, none, W, X, c, h => po_none_
  | tb, .some e, some x, W, X, c, h => po_some_ (okE _ e x W X c (by simpa [ckEo] using h)).1
  | tb, .none, some _, _, _, _, h => by simp [ckEo] at h
  | tb, .some _, none, _, _, _, h => by simp [ckEo] at h
theorem okC : ∀ (tb : Tab) (e : Eo) (x : List Expr) (W : WX) (X : Cx), CtxA g tb wf k W X → ckC tb X.env.scope X.fn X.N e x = true → PTs X x (tT g W (evC (run tb wf k) e))
  | tb, .none, [], W, X, c, h => by
    refine ⟨fun pins s σ H Q I ⟨ι, ρ, st, re, rs, w⟩ => pts_nil.run pins s σ H Q I ?_⟩
    exact w ι H true Ext.refl rs rfl
  | tb, .some e, [x], W, X, c, h => pts_one (okE _ e x W X c (by simpa [ckC] using h)).2
  | tb, .none, _ :: _, _, _, _, h => by simp [ckC] at h
  | tb, .some _, [], _, _, _, h => by simp [ckC] at h
  | tb, .some _, _ :: _ :: _, _, _, _, h => by simp [ckC] at h
theorem okIt : ∀ (tb : Tab) (it : It) (t x : Expr) (W : WX) (X : Cx), CtxA g tb wf k W X → ckIt tb X.env.scope X.fn X.N it t x = true → PI X t x (tI g W (evIt (run tb wf k) it)) ∧ ∀ v, foldedSetIterable x X.env v = pure v
  | tb, .seq e, t, x, W, X, c, h => by
    have h' : ckE tb X.env.scope X.fn X.N e x = true := by simpa [ckIt] using h
    exact ⟨pi_seq_ c.hK (okE _ e x W X c h').1, noset_of (ck_star h') _⟩
  | tb, .rng es, t, x, W, X, c, h => by
    match x, h with
    | .Call (.Name n q) xs [] p, h =>
      simp only [ckIt, Bool.and_eq_true, decide_eq_true_eq] at h
      obtain ⟨⟨⟨rfl, h2⟩, h3⟩, h4⟩ := h
      refine ⟨?_, fun _ => rfl⟩
      have pa := (okEs _ es xs W X c h3).1
      have al := args_len (cf := run tb wf k) h3
      match xs, h4, h3, pa, al with
      | [y], _, h3, pa, al =>
        have hs : starEach [y] X.env = [(false, eval y X.env)] := by
          cases es with
          | nil => simp [ckEs] at h3
          | cons e es =>
            simp only [ckEs, Bool.and_eq_true] at h3
            exact star_of (ck_star h3.1) _ _
        exact pi_rng1_ (glB_ok h2) c.mgI.1 pa al hs
      | [y, z], _, h3, pa, al =>
        have hs : notStar y = true ∧ notStar z = true := by
          cases es with
          | nil => simp [ckEs] at h3
          | cons e es =>
            cases es with
            | nil => simp [ckEs] at h3
            | cons e' es =>
              simp only [ckEs, Bool.and_eq_true] at h3
              exact ⟨ck_star h3.1, ck_star h3.2.1⟩
        exact pi_rng2_ (glB_ok h2) c.mgI.1 pa al (by rw [star_of hs.1, star_of hs.2]; rfl) (by rw [star_of hs.2]; rfl)
      | [], h4, _, _, _ => simp at h4
      | _ :: _ :: _ :: _, h4, _, _, _ => simp at h4
  | tb, .zip a b, t, x, W, X, c, h => by
    match t, x, h with
    | .Tuple els kk tp, .Call (.Name n q) [y, z] [] p, h =>
      simp only [ckIt, Bool.and_eq_true, decide_eq_true_eq] at h
      obtain ⟨⟨⟨rfl, h2⟩, h3⟩, h4⟩ := h
      exact ⟨pi_zip_ c.hK (glB_ok h2) c.mgI.2.1 (okE _ a y W X c h3).1 (okE _ b z W X c h4).1 (ck_star h3) (ck_star h4), fun _ => rfl⟩
  | tb, .enum a, t, x, W, X, c, h => by
    match t, x, h with
    | .Tuple els kk tp, .Call (.Name n q) [y] [] p, h =>
      simp only [ckIt, Bool.and_eq_true, decide_eq_true_eq] at h
      obtain ⟨⟨rfl, h2⟩, h3⟩ := h
      exact ⟨pi_enum_ c.hK (glB_ok h2) c.mgI.2.2 (okE _ a y W X c h3).1 (ck_star h3), fun _ => rfl⟩
end
end
end Fy
end
section
set_option Elab.async false
set_option linter.all false
set_option maxRecDepth 100000
set_option maxHeartbeats 4000000
/-! FyC: statements. -/
namespace Fy
open PySem PySem.Spec PyProof.Rows L2
/-- a statement ends so -/
def WpS (g : Glo) (W : WX) (D : Ends) (ι : List Addr) (H : Hp) (m : Fl) : Prop :=
  match m with
  | .nx ρ s => ∀ ι' H' σ', Ext ι H ι' H' → RS g ι' s H' → RE g ι' H' ρ σ' → D.nx σ' H'
  | .rt t s => ∀ ι' H' v, Ext ι H ι' H' → RS g ι' s H' → (rlT g).r H ι' H' t v → D.rt v H'
  | .bk ρ s => ∀ ι' H' σ', Ext ι H ι' H' → RS g ι' s H' → RE g ι' H' ρ σ' → D.bk σ' H'
  | .ct ρ s => ∀ ι' H' σ', Ext ι H ι' H' → RS g ι' s H' → RE g ι' H' ρ σ' → D.ct σ' H'
  | .ex ρ x s => ∀ ι' H' σ' c d, Ext ι H ι' H' → RS g ι' s H' → RE g ι' H' ρ σ' → RX g ι' H' x c d → W c d σ' H'
  | .bad => False
def tS (g : Glo) (W : WX) (f : Env → Sto → Fl) : TS := fun D σ H => ∃ ι ρ s, RE g ι H ρ σ ∧ RS g ι s H ∧ WpS g W D ι H (f ρ s)
section
variable {g : Glo} {W : WX} {X : Cx} {D : Ends} {σ : L2.St} {ι ι1 : List Addr} {H H1 : Hp} {s : Sto} {ρ : Env} {e : Expr} {fa : Env → Sto → R T} {pos : Pos}
theorem WpS.shift {m : Fl} (h : WpS g W D ι H m) (x : Ext ι H ι1 H1) : WpS g W D ι1 H1 m := by
  cases m with
  | nx ρ s => exact fun ι' H' σ' x' => h ι' H' σ' (x.trans x')
  | rt t s => exact fun ι' H' v x' rs r => h ι' H' v (x.trans x') rs ((rlT g).sh x x' r)
  | bk ρ s => exact fun ι' H' σ' x' => h ι' H' σ' (x.trans x')
  | ct ρ s => exact fun ι' H' σ' x' => h ι' H' σ' (x.trans x')
  | ex ρ y s => exact fun ι' H' σ' c d x' => h ι' H' σ' c d (x.trans x')
  | bad => exact h
theorem WpS.step {α β : Type} {RA : Rl α β} {m : R α} {k : α → Sto → Fl} {N : β → Hp → Prop} (h : WpS g W D ι H (m.fl ρ k)) (re : RE g ι H ρ σ) (rs : RS g ι s H)
    (hk : ∀ a s1 ι1 H1 b, m = .ok a s1 → Ext ι H ι1 H1 → RS g ι1 s1 H1 → RA.r H ι1 H1 a b → WpS g W D ι H (k a s1) → N b H1) : Wp g W RA σ ι H m N := by
  cases m with
  | ok a s1 => exact fun ι1 H1 b x rs r => hk a s1 ι1 H1 b rfl x rs r h
  | ex e s' => exact fun ι' H' c d x rs' rx => h ι' H' σ c d x rs' (re.ext rs x) rx
  | bad => exact h
/-- .. begun further on -/
theorem WpS.stepAt {α β : Type} {RA : Rl α β} {m : R α} {k : α → Sto → Fl} {N : β → Hp → Prop} {ι0 : List Addr} {H0 : Hp} (h : WpS g W D ι0 H0 (m.fl ρ k)) (x0 : Ext ι0 H0 ι H) (re : RE g ι H ρ σ) (rs : RS g ι s H)
    (hk : ∀ a s1 ι1 H1 b, m = .ok a s1 → Ext ι H ι1 H1 → RS g ι1 s1 H1 → RA.r H ι1 H1 a b → WpS g W D ι0 H0 (k a s1) → N b H1) : Wp g W RA σ ι H m N := by
  cases m with
  | ok a s1 => exact fun ι1 H1 b x rs r => hk a s1 ι1 H1 b rfl x rs r h
  | ex e s' => exact fun ι' H' c d x rs' rx => h ι' H' σ c d (x0.trans x) rs' (re.ext rs x) rx
  | bad => exact h
theorem WpS.keep {DD : Ends} {k : Fy.D → Sto → Fl} {N : V → Hp → Prop} {t : R T} (h : WpS g W DD ι H (t.fl ρ fun x s => (keepR x s).fl ρ k)) (re : RE g ι H ρ σ) (rs : RS g ι s H)
    (hk : ∀ d s1 ι1 H1 v, Ext ι H ι1 H1 → RS g ι1 s1 H1 → RD g ι1 H1 d v → WpS g W DD ι H (k d s1) → N v H1) : Wp g W (rlT g) σ ι H t N :=
  WpS.step (RA := rlT g) h re rs fun t s1 ι1 H1 v _ x1 rs1 r1 w0 => by
    obtain ⟨ι2, rs2, x2, rd⟩ := keep_ok rs1 x1 r1.1 r1.2
    exact hk _ _ ι2 H1 v x2 rs2 rd w0
theorem cond_ok {m1 m2 : T → Sto → Fl} {N : Bool → Hp → Prop}
    (w : WpS g W D ι H ((fa ρ s).fl ρ fun x s => match truth x s with | some true => m1 x s | some false => m2 x s | none => .bad)) (re : RE g ι H ρ σ) (rs : RS g ι s H)
    (h1 : ∀ x s1 ι1 H1, Ext ι H ι1 H1 → RS g ι1 s1 H1 → WpS g W D ι1 H1 (m1 x s1) → N true H1)
    (h2 : ∀ x s1 ι1 H1, Ext ι H ι1 H1 → RS g ι1 s1 H1 → WpS g W D ι1 H1 (m2 x s1) → N false H1) : Wp g W rlB σ ι H (thr fa ρ s) N := by
  unfold thr
  cases h : fa ρ s with
  | ok x s1 =>
    rw [h] at w
    simp only [R.bind_ok, R.fl_ok] at w ⊢
    cases ht : truth x s1 with
    | none => rw [ht] at w; exact w.elim
    | some b =>
      rw [ht] at w
      rintro ι' H' b' x1 rs1 r1
      have r1' : b = b' := r1
      subst r1'
      cases b with
      | true => exact h1 x s1 ι' H' x1 rs1 (WpS.shift w x1)
      | false => exact h2 x s1 ι' H' x1 rs1 (WpS.shift w x1)
  | ex x s1 =>
    rw [h] at w
    exact fun ι' H' c d x1 rs' rx => w ι' H' σ c d x1 rs' (re.ext rs x1) rx
  | bad => rw [h] at w; exact w.elim

/-! ### plain statements -/
theorem ps_asg_ {tg : Expr} {t : Tg} (he : PE X e (tE g W fa)) (hg : PG X tg (gE g t)) (hs : swapsWithSole [tg] e pos.line X.env = pure false) (hw : swappedStores [tg] e X.env = pure none) (h1 : (assignEach [tg] X.env).map (·.2) = [assign tg X.env]) :
    PS X (.Assign [tg] e pos) (tS g W fun ρ s => (fa ρ s).fl ρ fun x s => (keepR x s).fl ρ fun d s => match bindT t d ρ with | some ρ => .nx ρ s | none => .bad) :=
  PS.imp (ps_asg he hg hs hw h1) fun D σ H ⟨ι, ρ, s, re, rs, w⟩ => ⟨ι, ρ, s, re, rs, WpS.keep w re rs fun d s1 ι1 H1 v x1 rs1 rd w0 => by
    cases hb : bindT t d ρ with
    | none => rw [hb] at w0; exact w0.elim
    | some ρ' =>
      rw [hb] at w0
      exact ⟨ι1, ρ, s1, d, ρ', re.ext rs x1, rs1, rd, hb, fun σ' re' _ => w0 ι1 H1 σ' x1 rs1 re'⟩⟩
theorem ps_setLc_ {i : Nat} {y : Str} {py spos : Pos} {elt tg' iter : Expr} {ifs : List Expr} {scope : Scope} {own : List (Str × Nat)} {tg : Tg} {fi : Env → Sto → R Items} {fc : Env → Sto → R Bool} {fe : Env → Sto → R T}
    (hK : X.K = g.K) (hc : X.calm = true) (hN : X.N.Nodup) (hy : X.N[i]? = some y) (hyl : X.env.scope.names.lookup y = some .local)
    (hsw : swapsWith (.ListComp elt [⟨tg', iter, ifs, 0⟩] scope pos) (some (.Name y py)) spos.line X.env = pure true) (hi : PI X tg' iter (tI g W fi)) (ok : BlkOk X.N X.env.scope scope own) (hsl : ∀ i ∈ tg.slots, i ∈ own.map (·.2))
    (hg : ∀ (s : Shared) (H : Hp) (C : Addr) (cl : List (Str × Addr)) (fp : List Addr), PG (X.blk s H scope (compEnvC scope cl C X.env) fp) tg' (gE g tg))
    (ht : ∀ (s : Shared) (H : Hp) (C : Addr) (cl : List (Str × Addr)) (fp : List Addr), PTs (X.blk s H scope (compEnvC scope cl C X.env) fp) ifs (tT g noW fc))
    (he : ∀ (s : Shared) (H : Hp) (C : Addr) (cl : List (Str × Addr)) (fp : List Addr), PE (X.blk s H scope (compEnvC scope cl C X.env) fp) elt (tE g noW fe)) (hs : ∀ x, foldedSetIterable iter X.env x = pure x) :
    PS X (.Assign [.Name y py] (.ListComp elt [⟨tg', iter, ifs, 0⟩] scope pos) spos) (tS g W fun ρ s => ((fi ρ s).bind fun I s => lcLoop (lcF tg (own.map (·.2)) ρ fc fe) I.src I.xs [] s).fl ρ fun x s => (keepR x s).fl ρ fun d s => .nx (ρ.set i (some d)) s) :=
  PS.imp (ps_setLc hc hN hy hyl hsw hi ok hg ht he hs) fun D σ H ⟨ι, ρ, s, re, rs, w⟩ => lc_ok hsl ⟨ι, ρ, s, re, rs, WpS.keep w re rs fun d s1 ι1 H1 v x1 rs1 rd w0 =>
    w0 ι1 H1 _ x1 rs1 ((re.ext rs x1).set i rd)⟩
theorem ps_ret_ (he : PE X e (tE g W fa)) : PS X (.Return (some e) pos) (tS g W fun ρ s => (fa ρ s).fl ρ fun x s => .rt x s) :=
  PS.imp (ps_ret he) fun D σ H ⟨ι, ρ, s, re, rs, w⟩ => ⟨ι, ρ, s, re, rs, WpS.step (RA := rlT g) w re rs fun t s1 ι1 H1 v _ x1 rs1 r1 w0 => w0 ι1 H1 v x1 rs1 r1⟩
theorem ps_ret0_ : PS X (.Return none pos) (tS g W fun _ s => .rt (.v .non) s) :=
  PS.imp ps_retN fun D σ H ⟨ι, ρ, s, re, rs, w⟩ => w ι H _ Ext.refl rs (rlT.v .non)
theorem ps_expr_ (he : PE X e (tE g W fa)) (hs : swapsWith e none pos.line X.env = pure false) : PS X (.Expr e pos) (tS g W fun ρ s => (fa ρ s).fl ρ fun _ s => .nx ρ s) :=
  PS.imp (ps_expr he hs) fun D σ H ⟨ι, ρ, s, re, rs, w⟩ => ⟨ι, ρ, s, re, rs, WpS.step (RA := rlT g) w re rs fun t s1 ι1 H1 v _ x1 rs1 r1 w0 => w0 ι1 H1 σ x1 rs1 (re.ext rs x1)⟩
theorem ps_pass_ : PS X (.Pass pos) (tS g W fun ρ s => .nx ρ s) := PS.imp ps_pass fun D σ H ⟨ι, ρ, s, re, rs, w⟩ => w ι H σ Ext.refl rs re
theorem ps_brk_ : PS X (.Break pos) (tS g W fun ρ s => .bk ρ s) := PS.imp ps_break fun D σ H ⟨ι, ρ, s, re, rs, w⟩ => w ι H σ Ext.refl rs re
theorem ps_cont_ : PS X (.Continue pos) (tS g W fun ρ s => .ct ρ s) := PS.imp ps_continue fun D σ H ⟨ι, ρ, s, re, rs, w⟩ => w ι H σ Ext.refl rs re
theorem ps_if_ {x : Expr} {a b : List Stmt} {f1 f2 : Env → Sto → Fl} (hc : PT X x (tT g W (thr fa))) (ha : PSs X a (tS g W f1)) (hb : PSs X b (tS g W f2)) :
    PS X (.If x a b pos) (tS g W fun ρ s => (fa ρ s).fl ρ fun x s => match truth x s with | some true => f1 ρ s | some false => f2 ρ s | none => .bad) :=
  PS.imp (ps_if hc ha hb) fun D σ H ⟨ι, ρ, s, re, rs, w⟩ => ⟨ι, ρ, s, re, rs, cond_ok w re rs (fun x s1 ι1 H1 x1 rs1 w1 => by rw [if_pos rfl]; exact ⟨ι1, ρ, s1, re.ext rs x1, rs1, w1⟩)
    fun x s1 ι1 H1 x1 rs1 w1 => by rw [if_neg Bool.false_ne_true]; exact ⟨ι1, ρ, s1, re.ext rs x1, rs1, w1⟩⟩
theorem ps_par_ {i j : Nat} {x y : Str} {a b : Expr} {px py pt : Pos} {kt k2 : Nat} {pt2 : Pos} {fa fb : Env → Sto → R T} (hc : X.calm = true) (hN : X.N.Nodup) (hi : X.N[i]? = some x) (hj : X.N[j]? = some y) (hij : i ≠ j)
    (hx : X.env.scope.names.lookup x = some .local) (hy : X.env.scope.names.lookup y = some .local) (ha : PA X [a, b] (tA g W (aCons fa (aCons fb aNil))))
    (hw : swappedStores [.Tuple [.Name x px, .Name y py] kt pt] (.Tuple [a, b] k2 pt2) X.env = pure (some [x, y])) :
    PS X (.Assign [.Tuple [.Name x px, .Name y py] kt pt] (.Tuple [a, b] k2 pt2) pos) (tS g W fun ρ s => (fa ρ s).fl ρ fun x s => (keepR x s).fl ρ fun d s => (fb ρ s).fl ρ fun y s => (keepR y s).fl ρ fun e s => .nx ((ρ.set i (some d)).set j (some e)) s) :=
  PS.imp (ps_par hc hN hi hj hij hx hy ha hw rfl) fun D σ H ⟨ι, ρ, s, re, rs, w⟩ => ⟨ι, ρ, s, re, rs, by
    have e : ((fa ρ s).fl ρ fun x s => (keepR x s).fl ρ fun d s => (fb ρ s).fl ρ fun y s => (keepR y s).fl ρ fun e s => Fl.nx ((ρ.set i (some d)).set j (some e)) s) =
        (aCons fa (aCons fb aNil) ρ s).fl ρ fun ds s => match ds with | [d, e] => Fl.nx ((ρ.set i (some d)).set j (some e)) s | _ => .bad := by
      unfold aCons aNil
      cases fa ρ s with
      | ok t s1 =>
        simp only [R.bind_ok, R.fl_ok, keepR]
        cases fb ρ (t.keep s1).2 with
        | ok t' s2 => rfl
        | ex _ _ => rfl
        | bad => rfl
      | ex _ _ => rfl
      | bad => rfl
    dsimp only at w
    rw [e] at w
    refine WpS.step (RA := rlDs g) w re rs fun ds s1 ι1 H1 vs _ x1 rs1 rds w0 => ?_
    match ds, rds, w0 with
    | [d, e], rds, w0 =>
      obtain ⟨v, u, rfl, r1, r2⟩ := RDs.two rds
      exact ⟨v, u, rfl, w0 ι1 H1 _ x1 rs1 (((re.ext rs x1).set i r1).set j r2)⟩
    | [], _, w0 => exact w0.elim
    | [_], _, w0 => exact w0.elim
    | _ :: _ :: _ :: _, _, w0 => exact w0.elim⟩
theorem ps_aug_ {i : Nat} {x : Str} {op : Bop} {pos' : Pos} (hN : X.N.Nodup) (hi : X.N[i]? = some x) (hx : L2.Loc X.env.scope x) (hf : X.fn x = true ∨ X.env.scope.names.lookup x = some .local) (he : PE X e (tE g W fa)) (hop : op = .add ∨ op = .sub) :
    PS X (.AugAssign (.Name x pos') (opOf op) e pos) (tS g W fun ρ s => match ρ[i]? with
      | some (some (.int a)) => (fa ρ s).fl ρ fun y s => match augT op a y with
        | some c => .nx (ρ.set i (some (.int c))) s
        | none => .bad
      | _ => .bad) := by
  have gen : ∀ (f : Int → Int → Int), PIp X (opOf op) (ipI f) → (∀ (a : Int) (y : T) c, augT op a y = some c → ∃ b, y = .v (.int b) ∧ c = f a b) →
      PS X (.AugAssign (.Name x pos') (opOf op) e pos) (tS g W fun ρ s => match ρ[i]? with
      | some (some (.int a)) => (fa ρ s).fl ρ fun y s => match augT op a y with
        | some c => .nx (ρ.set i (some (.int c))) s
        | none => .bad
      | _ => .bad) := fun f hp hf' =>
    PS.imp (ps_aug hN hi hx he hp hf) fun D σ H ⟨ι, ρ, s, re, rs, w⟩ => by
      dsimp only at w
      split at w
      · rename_i a hr
        obtain ⟨v, ev, rv⟩ := re.at_ i _ hr
        cases rv.int_
        refine ⟨_, ev, ι, ρ, s, re, rs, WpS.step (RA := rlT g) w re rs fun t s1 ι1 H1 v _ x1 rs1 r1 w0 => ?_⟩
        cases ha : augT op a t with
        | none => rw [ha] at w0; exact w0.elim
        | some c =>
          rw [ha] at w0
          obtain ⟨b, rfl, rfl⟩ := hf' a t c ha
          cases r1.1.int_
          exact ⟨a, b, rfl, rfl, w0 ι1 H1 _ x1 rs1 ((re.ext rs x1).set i (.int _))⟩
      · exact w.elim
  rcases hop with rfl | rfl
  · refine gen (fun i j => i + j) ip_add fun a y c h => ?_
    cases y with
    | l _ => simp [augT] at h
    | v d => cases d <;> simp [augT] at h; exact ⟨_, rfl, h.symm⟩
  · refine gen (fun i j => i - j) ip_sub fun a y c h => ?_
    cases y with
    | l _ => simp [augT] at h
    | v d => cases d <;> simp [augT] at h; exact ⟨_, rfl, h.symm⟩

/-! ### o[i] = e -/
theorem dicPut_ok {o : T} {k d : Fy.D} {s' : Sto} {v z u : V} (rs : RS g ι s H) (r1 : RT g ι H o v) (r2 : RD g ι H k z) (r3 : RD g ι H d u) (e : dicPut o k d s = some s') :
    ∃ a H', v = .ref a ∧ DPut H a z u H' ∧ RS g ι s' H' ∧ Ext ι H ι H' := by
  unfold dicPut at e
  split at e
  · rename_i n
    split at e
    · rename_i t kvs hn
      cases r1 with
      | v r1 => cases r1 with
        | @loc _ a q =>
          obtain ⟨b, e1, ro⟩ := rs.at_ n _ hn
          have eb : b = a := by rw [q] at e1; exact (Option.some.inj e1).symm
          subst eb
          cases t with
          | true => simp [dkey] at e
          | false =>
            obtain ⟨vk, e2, rk⟩ := ro
            simp only [dkey, Bool.false_eq_true, if_false, Option.bind_eq_some_iff, Option.map_eq_some_iff] at e
            obtain ⟨_, ⟨k', ek, rfl⟩, e⟩ := e
            split at e
            · rename_i hl
              cases e
              have eu := dkA_ok r2 ek
              subst eu
              have hs : sizeLine = LIM := sizeLine_eq
              have hlen : vk.length < sizeLine := by
                have : kvs.length = vk.length := Paired.length rk
                rw [hs, ← this]; exact hl
              obtain ⟨rs', x⟩ := rs.chg (o := .dic false (dset kvs [k'] d)) (u := .dK (putK vk k' u)) (List.getElem?_eq_some_iff.mp hn).1 q e2 rfl ⟨_, upd_same, (dset_rel rk k' r3).of fun z => z.sto e2 rfl⟩
              exact ⟨b, _, rfl, .k e2 hlen, rs', x⟩
            · cases e
    · cases e
  · cases e
theorem putAt_some {o : T} {k d : Fy.D} {s s' : Sto} (h : putAt o k d s = some s') : dicPut o k d s = some s' ∨ ∃ n j xs m, o = .v (.loc n) ∧ k = .int j ∧ s[n]? = some (.lst xs) ∧ ixN xs.length j = some m ∧ s' = s.set n (.lst (xs.set m d)) := by
  unfold putAt at h
  split at h
  · rename_i e
    cases h
    exact .inl e
  split at h
  · split at h
    · rename_i n j _ _ xs hn
      simp only [Option.map_eq_some_iff] at h
      obtain ⟨m, hm, e⟩ := h
      exact .inr ⟨n, j, xs, m, rfl, rfl, hn, hm, e.symm⟩
    · cases h
  · cases h
/-- a store into a list or a dict -/
theorem set_any (hu : X.A.units + 1 < cLine) : PSet X (fun o i v H Q => (∃ a H', o = .ref a ∧ DPut H a i v H' ∧ Q H') ∨ rSetL o i v H Q) := by
  intro pins s σ H o i v ov iv u Q I ro ri rv h
  rcases h with ⟨a, H', eo, dp, q⟩ | h
  · subst eo
    obtain rfl : ov = Value.ref a := ro
    exact d_setItem hu I dp ri rv fun s' I' => ⟨H', I', q⟩
  · exact set_list pins s σ H o i v ov iv u Q I ro ri rv h
theorem ps_put_ {o i : Expr} {fo fi : Env → Sto → R T} {tpos : Pos} (hu : X.A.units + 65 < cLine) (he : PE X e (tE g W fa)) (ho : PE X o (tE g W fo)) (hi : PE X i (tE g W fi)) (hs : notStar i = true) (hs2 : swapsWithSole [.Subscript o i tpos] e pos.line X.env = pure false) :
    PS X (.Assign [.Subscript o i tpos] e pos) (tS g W fun ρ s => (fa ρ s).fl ρ fun x s => (keepR x s).fl ρ fun d s => (fo ρ s).fl ρ fun o s => (fi ρ s).fl ρ fun y s => match y with
      | .v k => (match putAt o k d s with | some s => .nx ρ s | none => .bad)
      | _ => .bad) :=
  PS.imp (ps_asg he (pg_sub ho hi (set_any (by omega)) (fun v => by cases i <;> first | rfl | (simp [notStar] at hs))) hs2 rfl rfl) fun D σ H ⟨ι, ρ, s, re, rs, w⟩ =>
    ⟨ι, ρ, s, re, rs, WpS.keep w re rs fun d s1 ι1 H1 v x1 rs1 rd w0 => ⟨ι1, ρ, s1, re.ext rs x1, rs1, WpS.step (RA := rlT g) (WpS.shift w0 x1) (re.ext rs x1) rs1 fun t s2 ι2 H2 u _ x2 rs2 r2 w2 =>
      ⟨ι2, ρ, s2, re.ext rs (x1.trans x2), rs2, WpS.step (RA := rlT g) (WpS.shift w2 x2) (re.ext rs (x1.trans x2)) rs2 fun y s3 ι3 H3 z _ x3 rs3 r3 w3 => by
        have rt := r2.1.ext rs2 x3
        have rd3 := (rd.ext rs1 x2).ext rs2 x3
        cases y with
        | l _ => exact w3.elim
        | v k =>
          simp only at w3
          cases hp : putAt t k d s3 with
          | none => rw [hp] at w3; exact w3.elim
          | some s4 =>
            rw [hp] at w3
            rcases putAt_some hp with hp | ⟨n, j, xs, m, rfl, rfl, hn, hm, rfl⟩
            · have rk : RD g ι3 H3 k z := by cases r3.1 with | v q => exact q
              obtain ⟨a, H4, ea, dp, rs4, x4⟩ := dicPut_ok rs3 rt rk rd3 hp
              exact .inl ⟨a, H4, ea, dp, w3 ι3 _ σ (x3.trans x4) rs4 ((re.ext rs ((x1.trans x2).trans x3)).ext rs3 x4)⟩
            · cases r3.1.int_
              obtain ⟨a, vs, ea, hv, dv⟩ := mlst_ok rs3 rt (show mlstOf (.v (.loc n)) s3 = some xs by simp [mlstOf, hn])
              have hloc : ι3[n]? = some a := by
                cases rt with | v q => cases q with | loc q => cases ea; exact q
              obtain ⟨rs4, x4⟩ := rs3.put hn hloc hv (dv.set rd3 m)
              subst ea
              exact .inr ⟨a, vs, j, m, rfl, rfl, hv, by rw [← dv.length]; exact hm, w3 ι3 _ σ (x3.trans x4) rs4 ((re.ext rs ((x1.trans x2).trans x3)).ext rs3 x4)⟩⟩⟩⟩
theorem RDs.three {d e f : Fy.D} {vs : List V} (r : RDs g ι H [d, e, f] vs) : ∃ u v w, vs = [u, v, w] ∧ RD g ι H d u ∧ RD g ι H e v ∧ RD g ι H f w := by
  cases r with | cons r1 t => cases t with | cons r2 t => cases t with | cons r3 t => cases t; exact ⟨_, _, _, rfl, r1, r2, r3⟩
theorem ps_par3_ {i j l : Nat} {x y z : Str} {a b c : Expr} {px py pz pt : Pos} {kt k2 : Nat} {pt2 : Pos} {fs : Env → Sto → R (List Fy.D)} (hc : X.calm = true) (hN : X.N.Nodup) (hi : X.N[i]? = some x) (hj : X.N[j]? = some y) (hl : X.N[l]? = some z) (hij : i ≠ j) (hil : i ≠ l) (hjl : j ≠ l)
    (hx : X.env.scope.names.lookup x = some .local) (hy : X.env.scope.names.lookup y = some .local) (hz : X.env.scope.names.lookup z = some .local) (ha : PA X [a, b, c] (tA g W fs))
    (hw : swappedStores [.Tuple [.Name x px, .Name y py, .Name z pz] kt pt] (.Tuple [a, b, c] k2 pt2) X.env = pure (some [x, y, z])) :
    PS X (.Assign [.Tuple [.Name x px, .Name y py, .Name z pz] kt pt] (.Tuple [a, b, c] k2 pt2) pos) (tS g W fun ρ s => (fs ρ s).fl ρ fun ds s => match ds with | [d, e, f] => .nx (((ρ.set i (some d)).set j (some e)).set l (some f)) s | _ => .bad) :=
  PS.imp (ps_par3 hc hN hi hj hl hij hil hjl hx hy hz ha hw rfl) fun D σ H ⟨ι, ρ, s, re, rs, w⟩ => ⟨ι, ρ, s, re, rs, WpS.step (RA := rlDs g) w re rs fun ds s1 ι1 H1 vs _ x1 rs1 rds w0 => by
    match ds, rds, w0 with
    | [d, e, f], rds, w0 =>
      obtain ⟨u, v, w, rfl, r1, r2, r3⟩ := RDs.three rds
      exact ⟨u, v, w, rfl, w0 ι1 H1 _ x1 rs1 ((((re.ext rs x1).set i r1).set j r2).set l r3)⟩
    | [], _, w0 => exact w0.elim
    | [_], _, w0 => exact w0.elim
    | [_, _], _, w0 => exact w0.elim
    | _ :: _ :: _ :: _ :: _, _, w0 => exact w0.elim⟩
end
end Fy
end
section
set_option Elab.async false
set_option linter.all false
set_option maxRecDepth 100000
set_option maxHeartbeats 2000000
/-! Fz3: raise C(e). -/
namespace Fy
open PySem PySem.Spec PyProof.Rows L2
section
variable {g : Glo} {W : WX} {X : Cx}
theorem ps_raise_ {C fI : Addr} {fd : FuncData} {c : Str} {k : Nat} {e : Expr} {fs : Env → Sto → R (List Fy.D)} {p pos pos' : Pos} (hc : X.calm = true) (hK : X.K = g.K) (tk : Takes X W) (T : OexC g.K C) (iC : PySem.W.findIn g.K (.ref C) "__init__" = some (some (.ref fI)))
    (tI : PySem.W.typeIn g.K (.ref fI) = some (.type "function")) (F1 : FnOk X.prog X.w X.K X.mg X.base (L2.CX X.prog X.w) k fI fd ["self", "at"] (spXI C)) (hr : Room (k + 1) X.A) (hb : Binds X.K fd ["self", "at"] []) (hga : g.ga c = C)
    (hg : Gl X c) (hm : X.mg c = some (.ref C)) (hdb : (c == ("__debug__" : Str)) = false) (ha : PA X [e] (tA g W fs)) (he : notStar e = true) :
    PS X (.Raise (some (.Call (.Name c p) [e] [] pos)) none pos') (tS g W fun ρ s => (fs ρ s).fl ρ fun ds s => match ds with | [d] => .ex ρ ⟨c, d⟩ s | _ => .bad) := by
  have hse := star_of he [] X.env
  have hx : Passes (L2.CX X.prog X.w) X (fun _ _ _ => False) := fun pins σ H s e s' I z => by
    obtain ⟨_, _, _, _, _, _, _, _, _, _, _, _, q⟩ := z
    exact q.elim
  refine PS.imp (ps_raise hc tk (pmk_oex (hK ▸ T) (hK ▸ iC) (hK ▸ tI) F1 hr hb .nil hx hg hm ha hdb hse rfl)) fun DD σ H ⟨ι, ρ, s, re, rs, w⟩ => ?_
  refine ⟨ι, ρ, s, re, rs, WpS.step (RA := rlDs g) w re rs fun ds s1 ι1 H1 vs _ x1 rs1 rds w1 => ?_⟩
  match ds, rds, w1 with
  | [], _, w1 => exact w1.elim
  | _ :: _ :: _, _, w1 => exact w1.elim
  | [d], rds, w1 =>
    obtain ⟨y, rfl, ry⟩ := RDs.one rds
    refine ⟨by simp, fun a ea => ⟨a, y, rfl, upd_same, fun dx ed ne => ?_⟩⟩
    have ed1 : H1 dx = none := by rw [upd_ne ne] at ed; exact ed
    refine ⟨rfl, dx, [("at", y)], upd_same, by rw [upd_ne ne, upd_same], ed1, ?_⟩
    have eH : L2.upd (del (L2.upd (L2.upd (L2.upd H1 a (exo a C none)) dx (exd dx [("at", y)])) a (exo a C (some dx))) a) dx (.xd [("at", y)]) = L2.upd H1 dx (.xd [("at", y)]) := by
      funext b
      by_cases h1 : b = dx
      · subst h1
        rw [upd_same, upd_same]
      · rw [upd_ne h1, upd_ne h1]
        by_cases h2 : b = a
        · subst h2
          rw [del_same, ea]
        · rw [del_ne h2, upd_ne h2, upd_ne h1, upd_ne h2]
    rw [eH]
    have x2 : Ext ι1 H1 ι1 (L2.upd H1 dx (.xd [("at", y)])) := Ext.upd ed1
    exact w1 ι1 _ σ (.ref C) (some dx) (x1.trans x2) (rs1.upd ed1) ((re.ext rs x1).ext rs1 x2) ⟨by rw [hga], dx, y, rfl, upd_same, ry.ext rs1 x2⟩
end
end Fy
end
section
set_option Elab.async false
set_option linter.all false
set_option maxRecDepth 100000
set_option maxHeartbeats 1000000
/-! FyD: loops; all statements together. -/
namespace Fy
open PySem PySem.Spec PyProof.Rows L2
section
variable {g : Glo} {W : WX} {X : Cx} {ι : List Addr} {H : Hp} {e : Expr} {pos : Pos}
theorem ps_for_ {tg iter : Expr} {body : List Stmt} {t : Tg} {fi : Env → Sto → R Items} {fb : Env → Sto → Fl} (hp : PassesOwn (model X.prog X.w) X.A X.env X.xe) (hc : X.calm = true) (hi : PI X tg iter (tI g W fi)) (hg : PG X tg (gE g t)) (hb : PSs X body (tS g W fb))
    (hs : ∀ x, foldedSetIterable iter X.env x = pure x) :
    PS X (.For tg iter body [] pos) (tS g W fun ρ s => (fi ρ s).fl ρ fun I s => forLoop (forF t fb) I.src I.xs ρ s) :=
  PS.imp (ps_for hp hc hi hg hb hs) fun D σ H ⟨ι, ρ, s, re, rs, w⟩ => ⟨ι, ρ, s, re, rs, WpS.step (RA := rlI g) w re rs fun I s1 ι1 H1 J _ x1 rs1 wk w1 => by
    have wk' : Walks g ι1 H1 I J := wk
    have w1' := WpS.shift w1 x1
    refine ⟨fun i m σ' H' => m = I.xs.length - i ∧ i ≤ I.xs.length ∧ ∃ ι' ρ' s', Ext ι1 H1 ι' H' ∧ RS g ι' s' H' ∧ RE g ι' H' ρ' σ' ∧
      WpS g W D ι1 H1 (forLoop (forF t fb) I.src (I.xs.drop i) ρ' s'), ⟨_, rfl, Nat.zero_le _, ι1, ρ, s1, Ext.refl, rs1, re.ext rs x1, by simpa using w1'⟩, ?_⟩
    rintro i m σ' H' ⟨rfl, hi, ι', ρ', s', x2, rs2, re2, w2⟩
    by_cases hlt : i < I.xs.length
    · obtain ⟨d, hd⟩ : ∃ d, I.xs[i]? = some d := ⟨I.xs[i], by simp [hlt]⟩
      have hdrop : I.xs.drop i = d :: I.xs.drop (i + 1) := by
        rw [List.drop_eq_getElem_cons hlt]
        congr 1
        rw [List.getElem?_eq_getElem hlt] at hd
        exact Option.some.inj hd
      rw [hdrop] at w2
      unfold forLoop at w2
      cases hst : stands I.src s' with
      | false => rw [hst] at w2; simp only [Bool.false_eq_true, if_false] at w2; exact w2.elim
      | true =>
        rw [hst] at w2
        simp only [if_true] at w2
        obtain ⟨go, _⟩ := wk' ι' H' s' i x2 rs2 hst
        obtain ⟨hgo, yl⟩ := go d hd
        refine .inr ⟨hgo, fun σ3 H3 => ∃ ι3 ρ3 s3, Ext ι1 H1 ι3 H3 ∧ RS g ι3 s3 H3 ∧ RE g ι3 H3 ρ3 σ3 ∧
          WpS g W D ι1 H1 (forLoop (forF t fb) I.src (I.xs.drop (i + 1)) ρ3 s3), fun σ3 H3 h3 => ⟨_, by omega, rfl, hlt, h3⟩, fun x H4 hy => ?_⟩
        obtain ⟨x4, rs4, rd⟩ := yl x H4 hy
        rw [forF_ap] at w2
        cases hb : bindT t d ρ' with
        | none => rw [hb] at w2; exact w2.elim
        | some ρ2 =>
          rw [hb] at w2
          simp only at w2
          refine ⟨ι', ρ', s', d, ρ2, re2.ext rs2 x4, rs4, rd, hb, fun σ2 re5 _ => ⟨ι', ρ2, s', re5, rs4, ?_⟩⟩
          have x24 := x2.trans x4
          cases hf : fb ρ2 s' with
          | nx ρ6 s6 =>
            rw [hf] at w2
            exact fun ι7 H7 σ7 x7 rs7 re7 => ⟨ι7, ρ6, s6, x24.trans x7, rs7, re7, w2⟩
          | ct ρ6 s6 =>
            rw [hf] at w2
            exact fun ι7 H7 σ7 x7 rs7 re7 => ⟨ι7, ρ6, s6, x24.trans x7, rs7, re7, w2⟩
          | rt t6 s6 => rw [hf] at w2; exact WpS.shift (m := .rt t6 s6) w2 x24
          | bk ρ6 s6 => rw [hf] at w2; exact WpS.shift (m := .nx ρ6 s6) w2 x24
          | ex ρ6 y6 s6 => rw [hf] at w2; exact WpS.shift (m := .ex ρ6 y6 s6) w2 x24
          | bad => rw [hf] at w2; exact w2.elim
    · have ei : i = I.xs.length := by omega
      subst ei
      rw [List.drop_length] at w2
      unfold forLoop at w2
      cases hst : stands I.src s' with
      | false => rw [hst] at w2; simp only [Bool.false_eq_true, if_false] at w2; exact w2.elim
      | true =>
        rw [hst] at w2
        simp only [if_true] at w2
        exact .inl ⟨(wk' ι' H' s' _ x2 rs2 hst).2 (Nat.le_refl _), w2 ι' H' σ' x2 rs2 re2⟩⟩
theorem ps_while_ {x : Expr} {body : List Stmt} {fc : Env → Sto → R Bool} {fb : Env → Sto → Fl} {wf : Nat} (hp : PassesOwn (model X.prog X.w) X.A X.env X.xe) (hc : PT X x (tT g W fc)) (hb : PSs X body (tS g W fb)) :
    PS X (.While x body [] pos) (tS g W fun ρ s => whileLoop fc fb wf ρ s) :=
  PS.imp (ps_while hp hc hb) fun D σ H ⟨ι, ρ, s, re, rs, w⟩ => by
    refine ⟨fun m σ' H' => ∃ ι' ρ' s', Ext ι H ι' H' ∧ RS g ι' s' H' ∧ RE g ι' H' ρ' σ' ∧ WpS g W D ι H (whileLoop fc fb m ρ' s'), ⟨wf, ι, ρ, s, Ext.refl, rs, re, w⟩, ?_⟩
    rintro m σ' H' ⟨ι', ρ', s', x2, rs2, re2, w2⟩
    cases m with
    | zero => exact w2.elim
    | succ m =>
      unfold whileLoop at w2
      refine ⟨ι', ρ', s', re2, rs2, WpS.stepAt (RA := rlB) w2 x2 re2 rs2 fun b s3 ι3 H3 b' _ x3 rs3 eb w3 => ?_⟩
      have eb' : b = b' := eb
      subst eb'
      have re3 := re2.ext rs2 x3
      have x23 := x2.trans x3
      cases b with
      | false =>
        simp only [Bool.false_eq_true, if_false] at w3 ⊢
        exact w3 ι3 H3 σ' x23 rs3 re3
      | true =>
        simp only [if_true] at w3 ⊢
        refine ⟨fun σ4 H4 => ∃ ι4 ρ4 s4, Ext ι H ι4 H4 ∧ RS g ι4 s4 H4 ∧ RE g ι4 H4 ρ4 σ4 ∧ WpS g W D ι H (whileLoop fc fb m ρ4 s4), fun σ4 H4 h4 => ⟨m, Nat.lt_succ_self m, h4⟩, ι3, ρ', s3, re3, rs3, ?_⟩
        cases hf : fb ρ' s3 with
        | nx ρ6 s6 =>
          rw [hf] at w3
          exact fun ι7 H7 σ7 x7 rs7 re7 => ⟨ι7, ρ6, s6, x23.trans x7, rs7, re7, w3⟩
        | ct ρ6 s6 =>
          rw [hf] at w3
          exact fun ι7 H7 σ7 x7 rs7 re7 => ⟨ι7, ρ6, s6, x23.trans x7, rs7, re7, w3⟩
        | rt t6 s6 => rw [hf] at w3; exact WpS.shift (m := .rt t6 s6) w3 x23
        | bk ρ6 s6 => rw [hf] at w3; exact WpS.shift (m := .nx ρ6 s6) w3 x23
        | ex ρ6 y6 s6 => rw [hf] at w3; exact WpS.shift (m := .ex ρ6 y6 s6) w3 x23
        | bad => rw [hf] at w3; exact w3.elim

/-! ### the checker -/
def swB (sc : Scope) (y : Str) (py : Pos) (x : Expr) (scope : Scope) : Bool :=
  sc.names.lookup y == some .local && py.line == x.pos.line && !(scope.names.any fun (n, k) => n == y && (k == .local || k == .cell))
def notComp : Expr → Bool
  | .ListComp .. => false
  | .SetComp .. => false
  | .DictComp .. => false
  | _ => true
def vName : Expr → Option (Str × Pos)
  | .Name x p => some (x, p)
  | _ => none
theorem vName_some {e : Expr} {r : Str × Pos} (h : vName e = some r) : e = .Name r.1 r.2 := by
  unfold vName at h
  split at h
  · cases h; rfl
  · cases h
/-- a target is no plain local name -/
def cellB (sc : Scope) (ts : List Expr) : Bool := ts.any fun t => match vName t with | some r => !(sc.names.lookup r.1 == some .local) | none => true
theorem fm_len {α β : Type} {f : α → Option β} : ∀ {l : List α}, (l.filterMap f).length ≤ l.length ∧ ((l.filterMap f).length = l.length → ∀ x ∈ l, (f x).isSome = true)
  | [] => ⟨by simp, fun _ x h => by cases h⟩
  | a :: l => by
    obtain ⟨h1, h2⟩ := fm_len (f := f) (l := l)
    cases e : f a with
    | none =>
      rw [List.filterMap_cons_none e]
      exact ⟨Nat.le_succ_of_le h1, fun h => by simp at h; omega⟩
    | some b =>
      rw [List.filterMap_cons_some e]
      refine ⟨by simp; exact h1, fun h x hx => ?_⟩
      rw [List.length_cons, List.length_cons] at h
      rcases List.mem_cons.mp hx with rfl | hx
      · rw [e]; rfl
      · exact h2 (Nat.succ.inj h) x hx
theorem gen_tup {env : PySem.Env} {ts vs : List Expr} {k k2 : Nat} {p p2 : Pos} (h : cellB env.scope ts = true) : swappedStores [.Tuple ts k p] (.Tuple vs k2 p2) env = pure none := by
  unfold swappedStores
  simp only []
  split
  · rfl
  · split
    · rfl
    · split
      · rfl
      · rename_i hn
        exfalso
        simp only [Bool.or_eq_true, bne_iff_ne, ne_eq, not_or, Decidable.not_not] at hn
        have hl := hn.1
        have all := (fm_len).2 hl
        unfold cellB at h
        obtain ⟨t, ht, hx⟩ := List.any_eq_true.mp h
        have z := all t ht
        cases t with
        | Name id pos =>
          simp only [vName] at hx
          have hx' : (env.scope.names.lookup id == some .local) = false := by simpa using hx
          have k0 : (env.kindOf id == some NameKind.local) = false := hx'
          simp [k0] at z
        | _ => simp at z
/-- a store that goes target by target -/
def genAsg (sc : Scope) (tg x : Expr) : Bool :=
  match x with
  | .ListComp _ _ scope _ => (match tg with | .Name y py => !swB sc y py x scope | _ => true)
  | .SetComp .. => false
  | .DictComp .. => false
  | .Tuple .. => (match tg with | .Tuple ts _ _ => cellB sc ts | .List .. => false | _ => true)
  | _ => true
theorem gen_ok {env : PySem.Env} {tg x : Expr} (hk : env.scope.kind = .function) (h : genAsg env.scope tg x = true) (line : Nat) : swapsWithSole [tg] x line env = pure false ∧ swappedStores [tg] x env = pure none := by
  have kb : env.blockKind = .function := by unfold PySem.Env.blockKind; rw [hk]; rfl
  cases x <;> first
    | (exfalso; simp [genAsg] at h; done)
    | (refine ⟨by rfl, ?_⟩; cases tg <;> rfl)
    | (refine ⟨by rfl, ?_⟩; cases tg <;> first | rfl | (simp [genAsg] at h; done) | exact gen_tup (by simpa [genAsg] using h))
    | (refine ⟨?_, by cases tg <;> rfl⟩
       cases tg <;> first
         | rfl
         | (rename_i elt gens scope p y py
            have h' : swB env.scope y py (.ListComp elt gens scope p) scope = false := by simpa [genAsg] using h
            have hb : (PySem.Env.blockKind env == PySem.ScopeKind.function) = true := by rw [kb]; rfl
            show (pure (env.blockKind == .function && env.kindOf y == some .local && py.line == _ && !(scope.names.any fun (n, k) => n == y && (k == .local || k == .cell))) : Sem Bool) = pure false
            rw [hb, Bool.true_and]
            exact congrArg pure h'))
/-- both sides written as pairs of names and values -/
def parB (sc : Scope) (x y : Str) (px py : Pos) (a b : Expr) : Bool :=
  sc.names.lookup x == some .local && sc.names.lookup y == some .local && py.line == px.line && !decide (x = y) && notStar a && notStar b && !(foldedForSure 8 a && foldedForSure 8 b) && !(constantsAlone 8 a && constantsAlone 8 b)
theorem par_ok {env : PySem.Env} {x y : Str} {px py pt : Pos} {kt k2 : Nat} {pt2 : Pos} {a b : Expr} (hk : env.scope.kind = .function) (h : parB env.scope x y px py a b = true) :
    swappedStores [.Tuple [.Name x px, .Name y py] kt pt] (.Tuple [a, b] k2 pt2) env = pure (some [x, y]) := by
  have kb : env.blockKind = .function := by unfold PySem.Env.blockKind; rw [hk]; rfl
  unfold parB at h
  simp only [Bool.and_eq_true, Bool.not_eq_true', decide_eq_false_iff_not, beq_iff_eq] at h
  obtain ⟨⟨⟨⟨⟨⟨⟨h1, h2⟩, h3⟩, h4⟩, h5⟩, h6⟩, h7⟩, h8⟩ := h
  have k1 : (env.kindOf x == some .local) = true := by rw [beq_iff_eq]; exact h1
  have k2' : (env.kindOf y == some .local) = true := by rw [beq_iff_eq]; exact h2
  have st : ([a, b].any fun | .Starred .. => true | _ => false) = false := by
    cases a <;> cases b <;> first | rfl | (simp [notStar] at h5; done) | (simp [notStar] at h6; done)
  have pl : (px.line == px.line) = true := by simp
  have pl2 : (py.line == px.line) = true := by simp [h3]
  have h4' : ¬ y = x := fun e => h4 e.symm
  have hp : (Expr.Name x px).pos = px := rfl
  unfold swappedStores
  simp only [kb, st, List.length_cons, List.length_nil, List.head?_cons, Option.map_some, Option.getD_some, List.filterMap_cons, List.filterMap_nil, hp, k1, k2', pl, pl2, Bool.and_self, if_true, List.all_cons, List.all_nil, Bool.and_true, h7, h8]
  refine (if_neg (by decide)).trans ((if_neg ?_).trans ((if_neg ?_).trans ?_))
  · intro hh
    cases a <;> cases b <;> first | (simp at hh; done) | (simp [notStar] at h5; done) | (simp [notStar] at h6; done)
  · have e : [x, y].eraseDups = [x, y] := by
      rw [List.eraseDups_cons]
      have e2 : [y].eraseDups = [y] := by rw [List.eraseDups_cons]; rfl
      simp [h4', e2]
    rw [e]
    simp
  · rfl

/-- three at once -/
def par3B (sc : Scope) (x y z : Str) (px py pz : Pos) (a b c : Expr) : Bool :=
  sc.names.lookup x == some .local && sc.names.lookup y == some .local && sc.names.lookup z == some .local && py.line == px.line && pz.line == px.line && !decide (x = y) && !decide (x = z) && !decide (y = z) && notStar a && notStar b && notStar c
    && !(foldedForSure 8 a && (foldedForSure 8 b && foldedForSure 8 c)) && !(constantsAlone 8 a && (constantsAlone 8 b && constantsAlone 8 c))
theorem par3_ok {env : PySem.Env} {x y z : Str} {px py pz pt : Pos} {kt k2 : Nat} {pt2 : Pos} {a b c : Expr} (hk : env.scope.kind = .function) (h : par3B env.scope x y z px py pz a b c = true) :
    swappedStores [.Tuple [.Name x px, .Name y py, .Name z pz] kt pt] (.Tuple [a, b, c] k2 pt2) env = pure (some [x, y, z]) := by
  have kb : env.blockKind = .function := by unfold PySem.Env.blockKind; rw [hk]; rfl
  unfold par3B at h
  simp only [Bool.and_eq_true, Bool.not_eq_true', decide_eq_false_iff_not, beq_iff_eq] at h
  obtain ⟨⟨⟨⟨⟨⟨⟨⟨⟨⟨⟨⟨h1, h2⟩, h3⟩, h4⟩, h5⟩, h6⟩, h7⟩, h8⟩, n1⟩, n2⟩, n3⟩, f1⟩, f2⟩ := h
  have k1 : (env.kindOf x == some .local) = true := by rw [beq_iff_eq]; exact h1
  have k2' : (env.kindOf y == some .local) = true := by rw [beq_iff_eq]; exact h2
  have k3 : (env.kindOf z == some .local) = true := by rw [beq_iff_eq]; exact h3
  have pl : (px.line == px.line) = true := by simp
  have pl2 : (py.line == px.line) = true := by simp [h4]
  have pl3 : (pz.line == px.line) = true := by simp [h5]
  have d1 : ¬ y = x := fun e => h6 e.symm
  have d2 : ¬ z = x := fun e => h7 e.symm
  have d3 : ¬ z = y := fun e => h8 e.symm
  have hp : (Expr.Name x px).pos = px := rfl
  unfold swappedStores
  simp only [kb, List.length_cons, List.length_nil, List.head?_cons, Option.map_some, Option.getD_some, List.filterMap_cons, List.filterMap_nil, hp, k1, k2', k3, pl, pl2, pl3, Bool.and_self, if_true, List.all_cons, List.all_nil, Bool.and_true, f1, f2]
  refine (if_neg (by decide)).trans ((if_neg ?_).trans ((if_neg ?_).trans ?_))
  · intro hh
    have nn : ∀ e ∈ [a, b, c], notStar e = true := fun e he => by
      simp only [List.mem_cons, List.not_mem_nil, or_false] at he
      rcases he with rfl | rfl | rfl
      · exact n1
      · exact n2
      · exact n3
    simp only [Bool.or_eq_true, List.any_eq_true] at hh
    have key : ∀ e, e ∈ [a, b, c] → (match e with | .Starred .. => true | _ => false) = true → False := fun e he hf => by
      have z := nn e he
      cases e <;> first | (cases hf; done) | (simp [notStar] at z)
    obtain ⟨e, he, hf⟩ := hh
    exact key e he hf
  · have e : [x, y, z].eraseDups = [x, y, z] := by
      rw [List.eraseDups_cons]
      have e2 : [y, z].eraseDups = [y, z] := by
        rw [List.eraseDups_cons]
        have e3 : [z].eraseDups = [z] := by rw [List.eraseDups_cons]; rfl
        simp [d3, e3]
      simp [d1, d2, e2]
    rw [e]
    simp
  · rfl

/-! views of statements and expressions -/
def vAssign1 : Stmt → Option (Expr × Expr × Pos)
  | .Assign [tg] x p => some (tg, x, p)
  | _ => none
theorem vAssign1_some {st : Stmt} {r : Expr × Expr × Pos} (h : vAssign1 st = some r) : st = .Assign [r.1] r.2.1 r.2.2 := by
  unfold vAssign1 at h
  split at h
  · cases h; rfl
  · cases h
def vLc : Expr → Option (Expr × Expr × Expr × List Expr × Scope × Pos)
  | .ListComp elt [⟨t, i, ifs, 0⟩] scope p => some (elt, t, i, ifs, scope, p)
  | _ => none
theorem vLc_some {e : Expr} {r : Expr × Expr × Expr × List Expr × Scope × Pos} (h : vLc e = some r) : e = .ListComp r.1 [⟨r.2.1, r.2.2.1, r.2.2.2.1, 0⟩] r.2.2.2.2.1 r.2.2.2.2.2 := by
  unfold vLc at h
  split at h
  · cases h; rfl
  · cases h
def vTup2 : Expr → Option (Expr × Expr × Nat × Pos)
  | .Tuple [a, b] k p => some (a, b, k, p)
  | _ => none
theorem vTup2_some {e : Expr} {r : Expr × Expr × Nat × Pos} (h : vTup2 e = some r) : e = .Tuple [r.1, r.2.1] r.2.2.1 r.2.2.2 := by
  unfold vTup2 at h
  split at h
  · cases h; rfl
  · cases h
def vTup3 : Expr → Option (Expr × Expr × Expr × Nat × Pos)
  | .Tuple [a, b, c] k p => some (a, b, c, k, p)
  | _ => none
theorem vTup3_some {e : Expr} {r : Expr × Expr × Expr × Nat × Pos} (h : vTup3 e = some r) : e = .Tuple [r.1, r.2.1, r.2.2.1] r.2.2.2.1 r.2.2.2.2 := by
  unfold vTup3 at h
  split at h
  · cases h; rfl
  · cases h
def nmB (N : List Str) (i : Nat) (r : Option (Str × Pos)) : Bool := match r with | some x => decide (N[i]? = some x.1) | none => false
theorem nmB_ok {N : List Str} {i : Nat} {e : Expr} (h : nmB N i (vName e) = true) : ∃ x p, e = .Name x p ∧ N[i]? = some x := by
  unfold nmB at h
  split at h
  · rename_i x hx
    exact ⟨_, _, vName_some hx, of_decide_eq_true h⟩
  · cases h
def par3X (sc : Scope) (x y z : Option (Str × Pos)) (a b c : Expr) : Bool := match x, y, z with | some x, some y, some z => par3B sc x.1 y.1 z.1 x.2 y.2 z.2 a b c | _, _, _ => false
def vSub : Expr → Option (Expr × Expr × Pos)
  | .Subscript a b p => some (a, b, p)
  | _ => none
theorem vSub_some {e : Expr} {r : Expr × Expr × Pos} (h : vSub e = some r) : e = .Subscript r.1 r.2.1 r.2.2 := by
  unfold vSub at h
  split at h
  · cases h; rfl
  · cases h
def vRaise : Stmt → Option (Str × Pos × Expr × Pos × Pos)
  | .Raise (some (.Call (.Name c p) [e] [] q)) none r => some (c, p, e, q, r)
  | _ => none
theorem vRaise_some {st : Stmt} {r : Str × Pos × Expr × Pos × Pos} (h : vRaise st = some r) : st = .Raise (some (.Call (.Name r.1 r.2.1) [r.2.2.1] [] r.2.2.2.1)) none r.2.2.2.2 := by
  unfold vRaise at h
  split at h
  · cases h; rfl
  · cases h
def addSub : Bop → Bool
  | .add => true
  | .sub => true
  | _ => false
mutual
def ckS (tb : Tab) (sc : Scope) (fb : Str → Bool) (N : List Str) : S → Stmt → Bool
  | .asg t e, st => (match vAssign1 st with
    | some r => ckE tb sc fb N e r.2.1 && genAsg sc r.1 r.2.1 && ckT sc fb N t r.1
    | none => false)
  | .asgLc i own tg it c e, st => (match vAssign1 st with
    | some r => (match vName r.1 with
      | some n => (match vLc r.2.1 with
        | some l => ckE tb sc fb N (.lc own tg it c e) r.2.1 && swB sc n.1 n.2 r.2.1 l.2.2.2.2.1 && decide (N[i]? = some n.1)
        | none => false)
      | none => false)
    | none => false)
  | .par2 i j a b, st => (match vAssign1 st with
    | some r => (match vTup2 r.1 with
      | some l => (match vName l.1 with
        | some x => (match vName l.2.1 with
          | some y => (match vTup2 r.2.1 with
            | some q => decide (N[i]? = some x.1) && decide (N[j]? = some y.1) && parB sc x.1 y.1 x.2 y.2 q.1 q.2.1 && ckE tb sc fb N a q.1 && ckE tb sc fb N b q.2.1
            | none => false)
          | none => false)
        | none => false)
      | none => false)
    | none => false)
  | .par3 i j l a b c, st => (match vAssign1 st with
    | some r => (match vTup3 r.1 with
      | some t => (match vTup3 r.2.1 with
        | some q => nmB N i (vName t.1) && nmB N j (vName t.2.1) && nmB N l (vName t.2.2.1) && par3X sc (vName t.1) (vName t.2.1) (vName t.2.2.1) q.1 q.2.1 q.2.2.1 && ckEs tb sc fb N (.cons a (.cons b (.cons c .nil))) [q.1, q.2.1, q.2.2.1]
        | none => false)
      | none => false)
    | none => false)
  | .aug i op e, st => (match st with
    | .AugAssign t o v _ => (match vName t with
      | some x => decide (N[i]? = some x.1) && locB sc fb x.1 && opB op o && addSub op && ckE tb sc fb N e v
      | none => false)
    | _ => false)
  | .put o i e, st => (match vAssign1 st with
    | some r => (match vSub r.1 with
      | some l => ckE tb sc fb N o l.1 && ckE tb sc fb N i l.2.1 && ckE tb sc fb N e r.2.1 && notComp r.2.1
      | none => false)
    | none => false)
  | .ite c a b, st => (match st with | .If x u v _ => ckE tb sc fb N c x && ckSs tb sc fb N a u && ckSs tb sc fb N b v | _ => false)
  | .for_ t it b, st => (match st with | .For tg x body o _ => ckT sc fb N t tg && ckIt tb sc fb N it tg x && ckSs tb sc fb N b body && o.isEmpty | _ => false)
  | .while_ c b, st => (match st with | .While x body o _ => ckE tb sc fb N c x && ckSs tb sc fb N b body && o.isEmpty | _ => false)
  | .ret e, st => (match st with | .Return o _ => (match o with | some x => ckE tb sc fb N e x | none => false) | _ => false)
  | .raise c es, st => (match vRaise st with
    | some r => decide (c = r.1) && glB sc r.1 && okNm r.1 && tb.xc c && ckEs tb sc fb N es [r.2.2.1]
    | none => false)
  | .ret0, st => (match st with | .Return o _ => o.isNone | _ => false)
  | .expr e, st => (match st with | .Expr x _ => ckE tb sc fb N e x && notComp x | _ => false)
  | .brk, st => (match st with | .Break _ => true | _ => false)
  | .cont, st => (match st with | .Continue _ => true | _ => false)
  | .pass, st => (match st with | .Pass _ => true | _ => false)
def ckSs (tb : Tab) (sc : Scope) (fb : Str → Bool) (N : List Str) : Ss → List Stmt → Bool
  | .nil, st => st.isEmpty
  | .cons s r, st => (match st with | x :: xs => ckS tb sc fb N s x && ckSs tb sc fb N r xs | [] => false)
end
theorem noswap {x : Expr} (h : notComp x = true) (t : Option Expr) (line : Nat) (env : PySem.Env) : swapsWith x t line env = pure false := by
  cases x <;> first | rfl | (simp [notComp] at h)
theorem noswapS {x : Expr} (h : notComp x = true) (t : Expr) (line : Nat) (env : PySem.Env) : swapsWithSole [t] x line env = pure false := by
  cases x <;> first | rfl | (simp [notComp] at h)
theorem swap_ok {env : PySem.Env} {y : Str} {py p : Pos} {elt : Expr} {gens : List Comprehension} {scope : Scope} (hk : env.scope.kind = .function) (h : swB env.scope y py (.ListComp elt gens scope p) scope = true) (line : Nat) :
    swapsWith (.ListComp elt gens scope p) (some (.Name y py)) line env = pure true ∧ env.scope.names.lookup y = some .local := by
  have kb : env.blockKind = .function := by unfold PySem.Env.blockKind; rw [hk]; rfl
  have hb : (PySem.Env.blockKind env == PySem.ScopeKind.function) = true := by rw [kb]; rfl
  constructor
  · show (pure (env.blockKind == .function && env.kindOf y == some .local && py.line == (Expr.ListComp elt gens scope p).pos.line && !(scope.names.any fun (n, k) => n == y && (k == .local || k == .cell))) : Sem Bool) = pure true
    rw [hb, Bool.true_and]
    exact congrArg pure h
  · unfold swB at h
    simp only [Bool.and_eq_true, beq_iff_eq] at h
    exact h.1.1
variable {tb : Tab} {wf k : Nat}
theorem pss_nil_ : PSs X [] (tS g W fun ρ s => .nx ρ s) := PSs.imp pss_nil fun D σ H ⟨ι, ρ, s, re, rs, w⟩ => w ι H σ Ext.refl rs re
theorem pss_cons_ {st : Stmt} {r : List Stmt} {f1 f2 : Env → Sto → Fl} (h1 : PS X st (tS g W f1)) (h2 : PSs X r (tS g W f2)) : PSs X (st :: r) (tS g W fun ρ s => (f1 ρ s).then fun ρ s => f2 ρ s) :=
  PSs.imp (pss_cons h1 h2) fun D σ H ⟨ι, ρ, s, re, rs, w⟩ => ⟨ι, ρ, s, re, rs, by
    dsimp only at w
    cases hf : f1 ρ s with
    | nx ρ' s' =>
      rw [hf] at w
      exact fun ι' H' σ' x rs' re' => ⟨ι', ρ', s', re', rs', WpS.shift (m := f2 ρ' s') w x⟩
    | rt t s' => rw [hf] at w; exact w
    | bk ρ' s' => rw [hf] at w; exact w
    | ct ρ' s' => rw [hf] at w; exact w
    | ex ρ' x s' => rw [hf] at w; exact w
    | bad => rw [hf] at w; exact w⟩
theorem evSs_nil (cf : CallF) (wf : Nat) : evSs cf wf .nil = fun ρ s => .nx ρ s := by funext ρ s; rw [evSs.eq_def]
theorem evSs_cons (cf : CallF) (wf : Nat) (st : S) (r : Ss) : evSs cf wf (.cons st r) = fun ρ s => (evS cf wf st ρ s).then fun ρ s => evSs cf wf r ρ s := by funext ρ s; rw [evSs.eq_def]
mutual
theorem okS : ∀ (st : S) (x : Stmt) (W : WX) (X : Cx), CtxA g tb wf k W X → ckS tb X.env.scope X.fn X.N st x = true → PS X x (tS g W (evS (run tb wf k) wf st))
  | .asg t e, x, W, X, c, h => by
    unfold ckS at h
    split at h
    · rename_i r hr
      obtain rfl := vAssign1_some hr
      simp only [Bool.and_eq_true] at h
      obtain ⟨⟨he, hg⟩, ht⟩ := h
      obtain ⟨h1, h2⟩ := gen_ok (tg := r.1) c.kind hg r.2.2.line
      have ha : (assignEach [r.1] X.env).map (·.2) = [assign r.1 X.env] := by rw [ckT_star ht]; rfl
      exact ps_asg_ (okE _ e _ W X c he).1 (okT c.hK c.calm c.nd t _ ht) h1 h2 ha
    · cases h
  | .asgLc i own tg' it d e', x, W, X, c, h => by
    unfold ckS at h
    split at h
    · rename_i r hr
      obtain rfl := vAssign1_some hr
      split at h
      · rename_i n hn
        split at h
        · rename_i l hl
          have e1 := vName_some hn
          have e2 := vLc_some hl
          simp only [Bool.and_eq_true, decide_eq_true_eq] at h
          obtain ⟨⟨he, hw⟩, hx⟩ := h
          rw [e1, e2]
          rw [e2] at he hw
          obtain ⟨hsw, hloc⟩ := swap_ok c.kind hw r.2.2.line
          simp only [ckE, Bool.and_eq_true] at he
          obtain ⟨⟨⟨⟨⟨h1, h2⟩, h3⟩, h4⟩, h5⟩, h6⟩ := he
          have hsl : ∀ i ∈ tg'.slots, i ∈ own.map (·.2) := by simpa using h2
          exact ps_setLc_ c.hK c.calm c.nd hx hloc hsw (okIt _ it _ _ W X c h4).1 (blkOk_by h1) hsl (fun s H C cl fp => okT (X := X.blk s H l.2.2.2.2.1 (compEnvC l.2.2.2.2.1 cl C X.env) fp) c.hK c.calm c.nd tg' _ h3)
            (fun s H C cl fp => (by have z := okC tb.off d _ noW _ (c.blk s H l.2.2.2.2.1 C cl fp (blkOk_by h1).kind) h5; rw [run_off] at z; exact z)) (fun s H C cl fp => (by have z := (okE tb.off e' _ noW _ (c.blk s H l.2.2.2.2.1 C cl fp (blkOk_by h1).kind) h6).1; rw [run_off] at z; exact z)) (okIt _ it _ _ W X c h4).2
        · cases h
      · cases h
    · cases h
  | .par2 i j a b, x, W, X, c, h => by
    unfold ckS at h
    split at h
    · rename_i r hr
      obtain rfl := vAssign1_some hr
      split at h
      · rename_i l hl
        split at h
        · rename_i x hx
          split at h
          · rename_i y hy
            split at h
            · rename_i q hq
              simp only [Bool.and_eq_true, decide_eq_true_eq] at h
              obtain ⟨⟨⟨⟨h1, h2⟩, h3⟩, h4⟩, h5⟩ := h
              have e1 := vTup2_some hl
              rw [vName_some hx, vName_some hy] at e1
              rw [e1, vTup2_some hq]
              have hp := par_ok (kt := l.2.2.1) (pt := l.2.2.2) (k2 := q.2.2.1) (pt2 := q.2.2.2) c.kind h3
              have hxy : x.1 ≠ y.1 ∧ X.env.scope.names.lookup x.1 = some .local ∧ X.env.scope.names.lookup y.1 = some .local := by
                unfold parB at h3
                simp only [Bool.and_eq_true, Bool.not_eq_true', decide_eq_false_iff_not, beq_iff_eq] at h3
                exact ⟨h3.1.1.1.1.2, h3.1.1.1.1.1.1.1, h3.1.1.1.1.1.1.2⟩
              have hij : i ≠ j := fun e => by
                subst e
                rw [h1] at h2
                exact hxy.1 (Option.some.inj h2)
              have su := star_of (ck_star h4) [q.2.1] X.env
              have sv := star_of (ck_star h5) [] X.env
              exact ps_par_ c.calm c.nd h1 h2 hij hxy.2.1 hxy.2.2 (pa_cons_ (okE _ a _ W X c h4).1 (pa_cons_ (okE _ b _ W X c h5).1 pa_nil_ sv) su) hp
            · cases h
          · cases h
        · cases h
      · cases h
    · cases h
  | .par3 i j l a b d, x, W, X, c, h => by
    unfold ckS at h
    split at h
    · rename_i r hr
      obtain rfl := vAssign1_some hr
      split at h
      · rename_i t ht
        split at h
        · rename_i q hq
          simp only [Bool.and_eq_true] at h
          obtain ⟨⟨⟨⟨h1, h2⟩, h3⟩, h4⟩, h5⟩ := h
          obtain ⟨x, px, ex, h1⟩ := nmB_ok h1
          obtain ⟨y, py, ey, h2⟩ := nmB_ok h2
          obtain ⟨z, pz, ez, h3⟩ := nmB_ok h3
          have e1 := vTup3_some ht
          rw [ex, ey, ez] at e1
          rw [ex, ey, ez] at h4
          have h4' : par3B X.env.scope x y z px py pz q.1 q.2.1 q.2.2.1 = true := h4
          rw [e1, vTup3_some hq]
          have hp := par3_ok (kt := t.2.2.2.1) (pt := t.2.2.2.2) (k2 := q.2.2.2.1) (pt2 := q.2.2.2.2) c.kind h4'
          unfold par3B at h4'
          simp only [Bool.and_eq_true, Bool.not_eq_true', decide_eq_false_iff_not, beq_iff_eq] at h4'
          obtain ⟨⟨⟨⟨⟨⟨⟨⟨⟨⟨⟨⟨l1, l2⟩, l3⟩, _⟩, _⟩, d1⟩, d2⟩, d3⟩, _⟩, _⟩, _⟩, _⟩, _⟩ := h4'
          have dd : ∀ {i j : Nat} {x y : Str}, X.N[i]? = some x → X.N[j]? = some y → x ≠ y → i ≠ j := fun {i j x y} p q n e => by
            subst e
            rw [p] at q
            exact n (Option.some.inj q)
          exact ps_par3_ c.calm c.nd h1 h2 h3 (dd h1 h2 d1) (dd h1 h3 d2) (dd h2 h3 d3) l1 l2 l3 (okEs _ _ [q.1, q.2.1, q.2.2.1] W X c h5).1 hp
        · cases h
      · cases h
    · cases h
  | .aug i op e, x, W, X, c, h => by
    unfold ckS at h
    split at h
    · split at h
      · rename_i x hx
        simp only [Bool.and_eq_true, decide_eq_true_eq] at h
        obtain ⟨⟨⟨⟨h1, h2⟩, h3⟩, h4⟩, h5⟩ := h
        obtain ⟨h6, h7⟩ := locB_ok h2
        rw [opB_ok h3, vName_some hx]
        exact ps_aug_ c.nd h1 h6 h7 (okE _ e _ W X c h5).1 (by cases op <;> first | exact .inl rfl | exact .inr rfl | cases h4)
      · cases h
    · cases h
  | .put o i e, x, W, X, c, h => by
    unfold ckS at h
    split at h
    · rename_i r hr
      obtain rfl := vAssign1_some hr
      split at h
      · rename_i l hl
        simp only [Bool.and_eq_true] at h
        obtain ⟨⟨⟨h1, h2⟩, h3⟩, h4⟩ := h
        rw [vSub_some hl]
        exact ps_put_ (by have := c.room.un; omega) (okE _ e _ W X c h3).1 (okE _ o _ W X c h1).1 (okE _ i _ W X c h2).1 (ck_star h2) (noswapS h4 _ _ _)
      · cases h
    · cases h
  | .ite d a b, x, W, X, c, h => by
    unfold ckS at h
    split at h
    · simp only [Bool.and_eq_true] at h
      obtain ⟨⟨h1, h2⟩, h3⟩ := h
      exact ps_if_ (okE _ d _ W X c h1).2 (okSs a _ W X c h2) (okSs b _ W X c h3)
    · cases h
  | .for_ t it b, x, W, X, c, h => by
    unfold ckS at h
    split at h
    · simp only [Bool.and_eq_true, List.isEmpty_iff] at h
      obtain ⟨⟨⟨h1, h2⟩, h3⟩, rfl⟩ := h
      obtain ⟨p1, p2⟩ := okIt _ it _ _ W X c h2
      exact ps_for_ c.po c.calm p1 (okT c.hK c.calm c.nd t _ h1) (okSs b _ W X c h3) p2
    · cases h
  | .while_ d b, x, W, X, c, h => by
    unfold ckS at h
    split at h
    · simp only [Bool.and_eq_true, List.isEmpty_iff] at h
      obtain ⟨⟨h1, h2⟩, rfl⟩ := h
      exact ps_while_ c.po (okE _ d _ W X c h1).2 (okSs b _ W X c h2)
    · cases h
  | .ret e, x, W, X, c, h => by
    unfold ckS at h
    split at h
    · split at h
      · exact ps_ret_ (okE _ e _ W X c h).1
      · cases h
    · cases h
  | .raise n es, x, W, X, c, h => by
    unfold ckS at h
    split at h
    · rename_i r hv
      have e1 := vRaise_some hv
      subst e1
      simp only [Bool.and_eq_true, decide_eq_true_eq] at h
      obtain ⟨⟨⟨⟨rfl, h2⟩, h3⟩, h4⟩, h5⟩ := h
      unfold okNm at h3
      simp only [Bool.and_eq_true, Bool.not_eq_true'] at h3
      obtain ⟨C, fI, fd, hm, hga, T, iC, tI, F1, hb⟩ := (c.xcs _ h4).ok
      have he : notStar r.2.2.1 = true := by
        cases es with
        | nil => simp [ckEs] at h5
        | cons e es =>
          simp only [ckEs, Bool.and_eq_true] at h5
          exact ck_star h5.1
      exact ps_raise_ c.calm c.hK c.tk T iC tI (c.hK ▸ F1) (c.room.mono (by omega)) (c.hK ▸ hb) hga (glB_ok h2) hm h3.1 (okEs _ es [r.2.2.1] W X c h5).1 he
    · cases h
  | .ret0, x, W, X, c, h => by
    unfold ckS at h
    split at h
    · simp only [Option.isNone_iff_eq_none] at h
      subst h
      exact ps_ret0_
    · cases h
  | .expr e, x, W, X, c, h => by
    unfold ckS at h
    split at h
    · simp only [Bool.and_eq_true] at h
      exact ps_expr_ (okE _ e _ W X c h.1).1 (noswap h.2 _ _ _)
    · cases h
  | .brk, x, W, X, c, h => by
    unfold ckS at h
    split at h
    · exact ps_brk_
    · cases h
  | .cont, x, W, X, c, h => by
    unfold ckS at h
    split at h
    · exact ps_cont_
    · cases h
  | .pass, x, W, X, c, h => by
    unfold ckS at h
    split at h
    · exact ps_pass_
    · cases h
theorem okSs : ∀ (st : Ss) (x : List Stmt) (W : WX) (X : Cx), CtxA g tb wf k W X → ckSs tb X.env.scope X.fn X.N st x = true → PSs X x (tS g W (evSs (run tb wf k) wf st))
  | .nil, x, W, X, c, h => by
    unfold ckSs at h
    rw [evSs_nil, List.isEmpty_iff.mp h]
    exact pss_nil_
  | .cons s r, x, W, X, c, h => by
    unfold ckSs at h
    split at h
    · simp only [Bool.and_eq_true] at h
      rw [evSs_cons]
      exact pss_cons_ (okS s _ W X c h.1) (okSs r _ W X c h.2)
    · cases h
end
end
end Fy
end
section
set_option Elab.async false
set_option linter.all false
set_option maxRecDepth 100000
set_option maxHeartbeats 1000000
/-! FyE: a def of the text keeps what the evaluator tells. -/
namespace Fy
open PySem PySem.Spec PyProof.Rows L2
section
variable {g : Glo} {ι ι' : List Addr} {H H' : Hp} {s s' : Sto}
mutual
theorem RD.cut {n : Nat} {d : D} {v : V} (r : RD g ι H d v) (u : D.under n d = true) : RD g (ι.take n) H d v := by
  cases r with
  | non => exact .non
  | bl b => exact .bl b
  | int i => exact .int i
  | str x => exact .str x
  | ty x => exact .ty x
  | gl x => exact .gl x
  | tup h r => exact .tup h (r.cut (by simpa [D.under] using u))
  | fro h r => exact .fro h (r.cut (by simpa [D.under] using u))
  | loc h =>
    have hn := of_decide_eq_true (show decide (_ < n) = true by simpa [D.under] using u)
    exact .loc (by rw [List.getElem?_take_of_lt hn]; exact h)
theorem RDs.cut {n : Nat} {d : List D} {v : List V} (r : RDs g ι H d v) (u : D.unders n d = true) : RDs g (ι.take n) H d v := by
  cases r with
  | nil => exact .nil
  | @cons x v xs vs r t =>
    have u' : D.under n x = true ∧ D.unders n xs = true := by simpa [D.unders] using u
    exact .cons (r.cut u'.1) (t.cut u'.2)
end
theorem RS.cut {n : Nat} (rs : RS g ι s H) (u : (s.take n).all (O.under n) = true) : RS g (ι.take n) (s.take n) H := by
  refine ⟨rs.nd.sublist (List.take_sublist _ _), by simp [rs.len], fun k o e => ?_, rs.tb⟩
  have hk : k < n := by
    have := (List.getElem?_eq_some_iff.mp e).1
    simp at this
    omega
  have uo : O.under n o = true := List.all_eq_true.mp u o (List.mem_of_getElem? e)
  rw [List.getElem?_take_of_lt hk] at e
  obtain ⟨a, ea, r⟩ := rs.at_ k o e
  refine ⟨a, by rw [List.getElem?_take_of_lt hk]; exact ea, ?_⟩
  cases o with
  | lst xs => obtain ⟨vs, e1, r1⟩ := r; exact ⟨vs, e1, r1.cut (by simpa [O.under] using uo)⟩
  | dic t kvs =>
    have go : ∀ {κ : Type} {c : κ → List Ky} {kvs : List (List Ky × D)} {vk : List (κ × V)}, RKV g ι H c kvs vk → (kvs.all fun kv => D.under n kv.2) = true → RKV g (ι.take n) H c kvs vk := by
      intro κ c kvs vk q
      induction q with
      | nil => intro _; exact .nil
      | @cons p q ps qs z t ih =>
        intro uo
        simp only [List.all_cons, Bool.and_eq_true] at uo
        exact .cons ⟨z.1, z.2.cut uo.1⟩ (ih uo.2)
    cases t <;> (obtain ⟨vk, e1, r1⟩ := r; exact ⟨vk, e1, go r1 (by simpa [O.under] using uo)⟩)
  | ins _ _ => exact r.elim
theorem pre_take (h : ι <+: ι') : ι'.take ι.length = ι := by
  obtain ⟨t, rfl⟩ := h
  simp
theorem Ext.cut (x : Ext ι H ι' H') : Ext ι H ι H' := ⟨List.prefix_refl _, x.keep, fun _ m n => absurd m n⟩
/-- behind a call what is left over is forgotten -/
theorem tidy_ok {W : WX} {σ : L2.St} {t : T} {v : V} {Q : VK} (h : Wp g W (rlT g) σ ι H (tidy ι.length t s') Q) (x : Ext ι H ι' H') (rs : RS g ι' s' H') (r : (rlT g).r H ι' H' t v) : Q v H' := by
  have keepAll : Wp g W (rlT g) σ ι H (.ok t s') Q → Q v H' := fun q => q ι' H' v x rs r
  have pt := pre_take x.pre
  unfold tidy at h
  split at h
  · rename_i hu
    have rs1 : RS g ι (s'.take ι.length) H' := by
      have q := rs.cut hu
      rw [pt] at q
      exact q
    split at h
    · -- a place
      rename_i m
      split at h
      · rename_i hm
        refine h ι H' v x.cut rs1 ⟨?_, trivial⟩
        cases r.1 with
        | v q =>
          cases q with
          | loc q =>
            refine .v (.loc ?_)
            rw [← pt, List.getElem?_take_of_lt hm]
            exact q
      · rename_i hm
        split at h
        · rename_i xs hs
          split at h
          · rename_i hx
            cases r.1 with
            | v q =>
              cases q with
              | @loc _ a q =>
                obtain ⟨b, eb, vs, e1, r1⟩ := rs.at_ m _ hs
                have e2 : b = a := by rw [q] at eb; exact (Option.some.inj eb).symm
                subst e2
                have na : b ∉ ι := fun mb => by
                  obtain ⟨j, hj, ej⟩ := List.mem_iff_getElem.mp mb
                  have e3 : ι'[j]? = some b := by
                    rw [← List.getElem?_take_of_lt hj, pt, List.getElem?_eq_getElem hj, ej]
                  obtain ⟨l1, q1⟩ := List.getElem?_eq_some_iff.mp e3
                  obtain ⟨l2, q2⟩ := List.getElem?_eq_some_iff.mp q
                  have := (List.getElem_inj rs.nd).mp (q1.trans q2.symm)
                  omega
                have r2 : RDs g ι H' xs vs := by
                  have z := r1.cut hx
                  rw [pt] at z
                  exact z
                exact h ι H' _ x.cut rs1 ⟨.l e1 na r2, b, rfl, x.new b (List.mem_of_getElem? q) na⟩
          · exact keepAll h
        · exact keepAll h
    · -- data
      rename_i d hd
      split at h
      · rename_i hx
        refine h ι H' v x.cut rs1 ⟨?_, trivial⟩
        cases r.1 with
        | v q =>
          have z := q.cut hx
          rw [pt] at z
          exact .v z
      · exact keepAll h
    · rename_i xs
      split at h
      · rename_i hx
        refine h ι H' v x.cut rs1 ⟨?_, r.2⟩
        cases r.1 with
        | l e1 n1 r1 =>
          have z := r1.cut hx
          rw [pt] at z
          exact .l e1 (fun m => n1 (x.pre.mem m)) z
      · exact keepAll h
  · exact keepAll h
theorem res_ok {σ : L2.St} {m : Fl} {Q : VK} {E : XK} (h : Wp g (fun c d _ H => E c d H) (rlT g) σ ι H (m.res ι.length) Q) :
    WpS g (fun c d _ H => E c d H) { nx := fun _ H' => Q .non H', rt := Q } ι H m := by
  cases m with
  | nx ρ s' => exact fun ι' H' σ' x rs re => tidy_ok h x rs (rlT.v .non)
  | rt t s' => exact fun ι' H' v x rs r => tidy_ok h x rs r
  | bk ρ s' => exact h.elim
  | ct ρ s' => exact h.elim
  | ex ρ y s' =>
    intro ι' H' σ' c d x rs re rx
    have h : Wp g (fun c d _ H => E c d H) (rlT g) σ ι H (if ((s'.take ι.length).all (O.under ι.length) && D.under ι.length y.val) = true then .ex y (s'.take ι.length) else .ex y s') Q := h
    split at h
    · rename_i hu
      simp only [Bool.and_eq_true] at hu
      have pt := pre_take x.pre
      have rs1 : RS g ι (s'.take ι.length) H' := by
        have q := rs.cut hu.1
        rw [pt] at q
        exact q
      obtain ⟨e1, dx, v, e2, e3, e4⟩ := rx
      have z := e4.cut hu.2
      rw [pt] at z
      exact h ι H' c d x.cut rs1 ⟨e1, dx, v, e2, e3, z⟩
    · exact h ι' H' c d x rs rx
  | bad => exact h.elim
theorem start_ok {N : List Str} {ds : List D} {vs : List V} (r : RDs g ι H ds vs) : RE g ι H (ds.map some ++ List.replicate (N.length - vs.length) none) (L2.start N vs) := by
  have hl := r.length
  refine ⟨by simp [L2.start, hl], fun i d h => ?_⟩
  by_cases hi : i < ds.length
  · rw [List.getElem?_append_left (by simpa using hi), List.getElem?_map] at h
    cases e : ds[i]? with
    | none => rw [e] at h; cases h
    | some d' =>
      rw [e] at h
      cases h
      obtain ⟨v, e1, r1⟩ := r.get e
      refine ⟨v, ?_, r1⟩
      unfold L2.start
      rw [List.getElem?_append_left (by rw [List.length_map]; omega), List.getElem?_map, e1]
      rfl
  · rw [List.getElem?_append_right (by simpa using hi), List.getElem?_replicate] at h
    split at h <;> cases h
end

/-- a def as it stands behind the top, with defaults or without -/
structure FunX (K : PySem.W.Frag) (x qual : Str) (st : Stmt) (f : Addr) (fd : FuncData) : Prop where
  ex : ∃ (oc : Value) (od : Option Addr) (dV kV doc pm : Value) (an : Option Addr) (cdv ct : Value) (osl : Array (Option Value)),
    fd = PySem.W.fnOf x qual (defArgs st) (defBody st) (defScope st) dV kV doc pm an cdv ct ∧ K.lookup f = some ⟨oc, od, .func fd, osl⟩ ∧ PySem.W.codeIn K cdv qual = true
  kp : PySem.W.keepIn K (.ref f) = true
theorem FunX.of {K : PySem.W.Frag} {x qual : Str} {st : Stmt} {f : Addr} {fd : FuncData} (F : Fun K x qual st f fd) : FunX K x qual st f fd := by
  obtain ⟨oc, od, kV, doc, pm, an, cdv, ct, osl, h1, h2, h3⟩ := F.ex
  exact ⟨⟨oc, od, _, kV, doc, pm, an, cdv, ct, osl, h1, h2, h3⟩, F.kp⟩
/-- a def of the text and its IR; b: it makes lambdas -/
structure DefOk (g : Glo) (mg : Str → Option Value) (base : Heap) (tb : Tab) (f : Str) (d : Fn) : Prop where
  ok : ∃ (st : Stmt) (qual : Str) (fa : Addr) (fd : FuncData) (N ps : List Str) (b : Bool), FunX g.K f qual st fa fd ∧ FnScope N ps (defScope st) ∧ ps.length = d.np ∧ N.length = d.nn ∧ mg f = some (.ref fa) ∧
    ckSs (tb.flag b) (defScope st) (fun _ => true) N d.body (defBody st) = true ∧
    (∀ n, n ≤ d.np → d.np - n ≤ d.dv.length → ∃ ds dvs, Binds g.K fd ps ds ∧ Vals dvs ds ∧ ∀ ι H, RDs g ι H (d.dv.drop (d.dv.length + n - d.np)) dvs) ∧
    (b = true → ∃ c P, LamX.TabB base mg c P ∧ fd.code = .ref c ∧ (P, qual ++ ".<locals>." ++ "<lambda>") ∈ g.T ∧ ∀ p ∈ g.T, p.1 = P → p.2 = qual ++ ".<locals>." ++ "<lambda>")
/-- what the top leaves to its names -/
structure TopOk (g : Glo) (P : Program) (w : World) (base : Heap) (tb : Tab) (mg : Str → Option Value) : Prop where
  mgB : ∀ f, mg (biName f) = none
  mgI : mg "range" = none ∧ mg "zip" = none ∧ mg "enumerate" = none
  mgT : ∀ p ∈ tyNames, mg p.1 = none
  hds : ∀ x c, tb.hd x = some c → HdOk g mg x c
  xcs : ∀ c, tb.xc c = true → XcOk g P w mg base c
  con : ∀ x d, tb.cs x = some d → ∃ u v, mg x = some u ∧ RelV v u ∧ ∀ ι H, RD g ι H d v
theorem CallOk.flag {g : Glo} {P : Program} {w : World} {mg : Str → Option Value} {base : Heap} {tb : Tab} {wf k : Nat} {f : Str} {d : Fn} (b : Bool) (h : CallOk g P w mg base tb wf k f d) : CallOk g P w mg base (tb.flag b) wf k f d := by
  obtain ⟨fa, fd, ps, F, r⟩ := h.ok
  exact ⟨fa, fd, ps, F.imp fun vs H Q E ⟨ι, s, ds, a, b, c, e⟩ => ⟨ι, s, ds, a, b, c, by rw [run_flag] at e; exact e⟩, r⟩
theorem fn_step {g : Glo} {P : Program} {w : World} {mg : Str → Option Value} {base : Heap} {tb : Tab} {wf k : Nat} {f qual : Str} {d : Fn} {st : Stmt} {fa : Addr} {fd : FuncData} {N ps : List Str} {b : Bool} (T : TopOk g P w base tb mg)
    (ih : ∀ f d, tb f = some d → CallOk g P w mg base tb wf k f d) (h : tb f = some d) (F : FunX g.K f qual st fa fd) (S : FnScope N ps (defScope st)) (h1 : ps.length = d.np) (h2 : N.length = d.nn)
    (h4 : ckSs (tb.flag b) (defScope st) (fun _ => true) N d.body (defBody st) = true)
    (h5 : b = true → ∃ c P, LamX.TabB base mg c P ∧ fd.code = .ref c ∧ (P, qual ++ ".<locals>." ++ "<lambda>") ∈ g.T ∧ ∀ p ∈ g.T, p.1 = P → p.2 = qual ++ ".<locals>." ++ "<lambda>") : FnOk P w g.K mg base (L2.CX P w) (3 * (k + 1) + 2) fa fd ps (spF g tb wf (k + 1) f d.np) := by
  obtain ⟨oc, od, dV, kV, doc, pm, an, cdv, ct, osl, rfl, lk, hcd⟩ := F.ex
  refine fn_of lk hcd S (fun vs H Q E ⟨ι, s, ds, rs, r, hl, w⟩ => by rw [hl, h1]) fun A outer s H vs Q E hr ⟨ι, st', ds, rs, r, hl, w'⟩ => ?_
  refine ⟨tS g (fun c d _ H => E c d H) (evSs (run tb wf k) wf d.body), ?_, ?_⟩
  · rw [← run_flag tb b]
    refine okSs (tb := tb.flag b) (wf := wf) (k := k) d.body (defBody st) (fun c d _ H => E c d H) _ ?_ h4
    exact ⟨rfl, rfl, S.nd, S.kind, passes_of rfl, hr.mono (by omega), T.mgB, T.mgI, T.mgT, takes_of rfl rfl rfl rfl, fun hb => ⟨hr, h5 hb⟩, T.hds, T.xcs, T.con, fun f' d' h' => (ih f' d' h').flag b⟩
  · have hl2 := r.length
    have fl : d.fill ds = ds := by
      unfold Fn.fill
      rw [hl2, hl, Nat.add_sub_cancel, List.drop_length, List.append_nil]
    have er : run tb wf (k + 1) f ds st' = (evSs (run tb wf k) wf d.body (ds.map some ++ List.replicate (d.nn - d.np) none) st').res st'.length := by
      rw [run]
      simp only [h, fl, hl2, hl, if_true]
    rw [er] at w'
    refine ⟨ι, ds.map some ++ List.replicate (d.nn - d.np) none, st', ?_, rs, ?_⟩
    · have z := start_ok (N := N) r
      rw [h2, hl] at z
      exact z
    · rw [← rs.len] at w'
      exact res_ok w'
theorem fn_ok {g : Glo} {P : Program} {w : World} {mg : Str → Option Value} {base : Heap} {tb : Tab} {wf : Nat} (T : TopOk g P w base tb mg) (hd : ∀ f d, tb f = some d → DefOk g mg base tb f d) :
    ∀ k f d, tb f = some d → CallOk g P w mg base tb wf k f d := by
  intro k
  induction k with
  | zero =>
    intro f d h
    obtain ⟨st, qual, fa, fd, N, ps, b, F, S, h1, h2, h3, h4, h5, h6⟩ := (hd f d h).ok
    refine ⟨fa, fd, ps, ⟨fun vs H Q E ⟨ι, s, ds, rs, r, hl, w⟩ => by rw [hl, h1], fun A outer s H args us vs Q E hr he hb hv ⟨ι, st, ds, rs, r, hl, w⟩ => ?_⟩, h1, h3, F.kp, h5⟩
    exact w.elim
  | succ k ih =>
    intro f d h
    obtain ⟨st, qual, fa, fd, N, ps, b, F, S, h1, h2, h3, h4, h5, h6⟩ := (hd f d h).ok
    exact ⟨fa, fd, ps, fn_step T ih h F S h1 h2 h4 h6, h1, h3, F.kp, h5⟩
end Fy
end
section
set_option Elab.async false
set_option linter.all false
set_option maxRecDepth 100000
set_option maxHeartbeats 1000000
/-! Fz6: a list that a def is handed, locked. -/
namespace Fy
open PySem PySem.Spec PyProof.Rows L2
theorem lock_fn {P : Program} {w : World} {K : PySem.W.Frag} {mg : Str → Option Value} {base : Heap} {k : Nat} {fa : Addr} {fd : FuncData} {ps : List Str} {sp sp' : Sp} (F : FnOk P w K mg base (L2.CX P w) k fa fd ps sp) (hl : ∀ vs H Q E, sp' vs H Q E → vs.length = ps.length)
    (h : ∀ vs H Q E, sp' vs H Q E → sp vs H Q E ∨ (E = fun _ _ _ => False) ∧ ∃ a xs, H a = some (.lst xs) ∧ ∀ o, sp vs (upd H a (.frz o (.lst xs))) Q E) : FnOk P w K mg base (L2.CX P w) k fa fd ps sp' := by
  refine ⟨hl, fun A outer s H args us vs Q E hr e0 hb hv hs => ?_⟩
  rcases h vs H Q E hs with q | ⟨rfl, a, xs, ha, q⟩
  · exact F.run A outer s H args us vs Q E hr e0 hb hv q
  · obtain ⟨o, ho⟩ := objOk_get (e0.hok a _ ha)
    have ne : ∀ {b : Addr}, H b = none → b ≠ a := fun {b} e z => by rw [z, ha] at e; cases e
    have nk : ∀ {b : Addr} {u : HO}, H b = some u → (∀ ys, u ≠ .lst ys) → b ≠ a := fun {b u} e k z => by
      rw [z, ha] at e
      exact k xs (Option.some.inj e).symm
    have e1 : Env0 P w K mg base A outer s (upd H a (.frz o (.lst xs))) := ⟨e0.frames, e0.mod, fun b u e => ⟨(e0.bs b u e).1, by rw [upd_ne (ne (e0.bs b u e).2)]; exact (e0.bs b u e).2⟩, e0.bsz, e0.funs, fun b m => by rw [upd_ne (ne (e0.frf b m))]; exact e0.frf b m, fun b u e => by
      have st : ∀ {b : Addr} {u : HO}, ObjOk P w H s.heap b u → ObjOk P w (upd H a (.frz o (.lst xs))) s.heap b u := fun {b u} z => z.stay (fun _ _ _ y => y) (fun c y => by rw [upd_ne (nk y fun _ t => by cases t)]; exact y) fun c ys y => by rw [upd_ne (nk y fun _ t => by cases t)]; exact y
      by_cases hba : b = a
      · subst hba
        rw [upd_same] at e
        cases e
        exact ⟨ho, st (e0.hok _ _ ha)⟩
      · rw [upd_ne hba] at e
        exact st (e0.hok b u e), e0.bare⟩
    refine codeAny_mono (F.run A outer s _ args us vs Q _ hr e1 hb hv (q o)) fun r s' hq => ?_
    cases r with
    | error e =>
      obtain ⟨_, _, _, _, _, _, _, _, _, _, _, _, z⟩ := hq
      exact z.elim
    | ok fl =>
      cases fl with
      | ret u =>
        obtain ⟨v, H', os, bare, un, hok, rv, qv⟩ := hq
        have f : ∀ {b : Addr} {z : Option HO}, b ≠ a → H b = z → upd H a (.frz o (.lst xs)) b = z := fun {b z} n e => by rw [upd_ne n]; exact e
        exact ⟨v, H', os, bare, ⟨fun b u e n => un.keep b u e (f (ne n) n), fun b u e n => un.slot b u e (f (ne n) n), fun b u e n => un.free b u e (f (ne n) n), un.there, fun b ys e => un.tups b ys (f (nk e fun _ t => by cases t) e), fun b y ys e => un.frzs b y ys (f (nk e fun _ t => by cases t) e),
          fun b ps e => un.tbls b ps (f (nk e fun _ t => by cases t) e)⟩, hok, rv, qv⟩
      | next => exact hq.elim
      | brk => exact hq.elim
      | cont => exact hq.elim
end Fy
end
section
set_option Elab.async false
set_option linter.all false
set_option maxRecDepth 100000
set_option maxHeartbeats 1000000
/-! FyF: the law's end. -/
namespace Fy
open PySem PySem.Spec PyProof.Rows L2
/-- what the law's def is asked for: a script in, True out; ts: the tables -/
def spLaw (K : PySem.W.Frag) (ts : List Addr) : Sp := fun vs H Q E => E = (fun _ _ _ => False) ∧ ∃ (a : Addr) (ns : List Int), vs = [.ref a] ∧ ns.length ≤ 63 ∧ (∀ p ∈ ts, H p = some (.tbl #[])) ∧ SqL K H a (ns.map V.int) ∧ ∀ H', Q (.bl true) H'
/-- .. the script locked -/
def spLawF (K : PySem.W.Frag) (ts : List Addr) : Sp := fun vs H Q E => ∃ (a : Addr) (ns : List Int), vs = [.ref a] ∧ ns.length ≤ 63 ∧ (∀ p ∈ ts, H p = some (.tbl #[])) ∧ SqF K H a (ns.map V.int) ∧ ∀ H', Q (.bl true) H'
/-- where the text's own things stand -/
def gaOf (mg : Str → Option Value) (x : Str) : Addr :=
  match mg x with
  | some (.ref a) => a
  | _ => 0
theorem binds0 {K : PySem.W.Frag} {fd : FuncData} {ps : List Str} {g : Glo} {d : Fn} (B : L2.Binds g.K fd ps []) (hl : ps.length = d.np) (hd : d.dv = []) : ∀ n, n ≤ d.np → d.np - n ≤ d.dv.length → ∃ ds dvs, L2.Binds g.K fd ps ds ∧ Vals dvs ds ∧ ∀ ι H, RDs g ι H (d.dv.drop (d.dv.length + n - d.np)) dvs := fun n h1 h2 =>
  ⟨[], [], B, .nil, fun ι H => by rw [hd]; simp; exact .nil⟩
theorem law_end {g : Glo} {P : Program} {w : World} {mg : Str → Option Value} {base : Heap} {tb : Tab} {wf k j : Nat} {fa : Addr} {fd : FuncData} {ps : List Str} {d : Fn} (hd : d.np = 1) (hps : ps.length = 1)
    (F : FnOk P w g.K mg base (L2.CX P w) j fa fd ps (spF g tb wf k "law" d.np)) (h : ∀ ns : List Int, ns.length ≤ 63 → ∃ s, run tb wf k "law" [.fro (ns.map .int)] [] = .ok (.v (.bl true)) s) :
    FnOk P w g.K mg base (L2.CX P w) j fa fd ps (spLaw g.K (g.T.map (·.1))) := by
  have F1 : FnOk P w g.K mg base (L2.CX P w) j fa fd ps (spLawF g.K (g.T.map (·.1))) := F.imp fun vs H Q E ⟨a, ns, e, hl, hT, hF, q⟩ => by
    subst e
    obtain ⟨s, er⟩ := h ns hl
    have r : ∀ ms : List Int, RDs g [] H (ms.map D.int) (ms.map V.int) := fun ms => by
      induction ms with
      | nil => exact .nil
      | cons n ms ih => exact .cons (.int n) ih
    refine ⟨[], [], [.fro (ns.map .int)], ⟨List.nodup_nil, rfl, fun n o h => by simp at h, fun p hp => LamX.TabS.nil (hT p.1 (List.mem_map.mpr ⟨p, hp, rfl⟩))⟩, .cons (.fro hF (r ns)) .nil, by rw [hd]; rfl, ?_⟩
    rw [er]
    intro ι' H' v x rs' rt
    have ev : v = .bl true := rt.1.bl_
    subst ev
    exact q H'
  refine lock_fn F1 (fun vs H Q E ⟨_, a, ns, e, _⟩ => by rw [e, hps]; rfl) fun vs H Q E ⟨eE, a, ns, e, hl, hT, hS, q⟩ => ?_
  subst e
  rcases hS with (z | z) | z
  · refine .inr ⟨eE, a, _, z, fun o => ⟨a, ns, rfl, hl, fun p hp => ?_, .inl ⟨o, upd_same⟩, q⟩⟩
    rw [upd_ne (fun y => by have t := hT p hp; rw [y, z] at t; cases t)]
    exact hT p hp
  · exact .inl ⟨a, ns, rfl, hl, hT, .inl z, q⟩
  · exact .inl ⟨a, ns, rfl, hl, hT, .inr z, q⟩
theorem cx_false {P : Program} {w : World} {outer : List PySem.Env} {H : Hp} {s s' : Shared} {e : Value} (h : L2.CX P w outer H s (fun _ _ _ => False) e s') : False := by
  obtain ⟨_, _, _, _, _, _, _, _, _, _, _, _, z⟩ := h
  exact z
end Fy
end
section
set_option Elab.async false
set_option linter.all false
set_option maxRecDepth 100000
set_option maxHeartbeats 1000000
/-! FyH: the facts of the top, for the law's end. -/
namespace Fy
open PySem PySem.Spec PyProof.Rows L2
/-- a def within a class, by its place -/
def inCls (s : Stmt) (i : Nat) : Stmt :=
  match s with
  | .ClassDef _ _ _ b _ _ _ _ _ _ _ => b.getD i (.Pass ⟨0, 0, 0, 0⟩)
  | _ => .Pass ⟨0, 0, 0, 0⟩
/-- one default -/
theorem binds1 {fd : FuncData} {ps : List Str} {g : Glo} {d : Fn} {x : Fy.D} {u : Value} {v : V} (B0 : L2.Binds g.K fd ps []) (B1 : L2.Binds g.K fd ps [u]) (hl : ps.length = d.np) (hd : d.dv = [x]) (rv : RelV v u) (rx : ∀ ι H, RD g ι H x v) :
    ∀ n, n ≤ d.np → d.np - n ≤ d.dv.length → ∃ ds dvs, L2.Binds g.K fd ps ds ∧ Vals dvs ds ∧ ∀ ι H, RDs g ι H (d.dv.drop (d.dv.length + n - d.np)) dvs := fun n h1 h2 => by
  rw [hd] at h2
  simp only [List.length_cons, List.length_nil, Nat.zero_add] at h2
  by_cases hn : n = d.np
  · subst hn
    refine ⟨[], [], B0, .nil, fun ι H => ?_⟩
    rw [hd]
    simp only [List.length_cons, List.length_nil, Nat.zero_add, Nat.add_sub_cancel, List.drop_succ_cons, List.drop_nil]
    exact .nil
  · refine ⟨[u], [v], B1, .cons rv .nil, fun ι H => ?_⟩
    rw [hd]
    have e : [x].length + n - d.np = 0 := by simp only [List.length_cons, List.length_nil]; omega
    rw [e]
    exact .cons (rx ι H) .nil
theorem binds_dv {K : PySem.W.Frag} {fd : FuncData} {ps : List Str} {T : Addr} {o : Obj} {its : Array Value} {m : Nat} {u : Value} (lT : K.lookup T = some o) (oT : o.data = .seq its m)
    (h : ∀ us : List Value, us.length + 1 = ps.length → ∃ k, bindArgs fd ⟨us, []⟩ = seqItems? (.ref T) >>= k ∧ k (some its) = pure (ps.zip (us ++ [u]))) : L2.Binds K fd ps [u] := fun s us X hlen => by
  rw [List.length_append] at hlen
  obtain ⟨k, e1, e2⟩ := h us (by simpa using hlen)
  refine L2.BindsTo.of_looks fun M => ?_
  rw [e1]
  exact looks_items X lT oT (.of_pure e2)
theorem binds_dv0 {K : PySem.W.Frag} {fd : FuncData} {ps : List Str} {T : Addr} {o : Obj} {its : Array Value} {m : Nat} (lT : K.lookup T = some o) (oT : o.data = .seq its m)
    (h : ∀ us : List Value, us.length = ps.length → ∃ k, bindArgs fd ⟨us, []⟩ = seqItems? (.ref T) >>= k ∧ k (some its) = pure (ps.zip us)) : L2.Binds K fd ps [] := fun s us X hlen => by
  rw [List.append_nil] at hlen ⊢
  obtain ⟨k, e1, e2⟩ := h us hlen
  refine L2.BindsTo.of_looks fun M => ?_
  rw [e1]
  exact looks_items X lT oT (.of_pure e2)
theorem lawAt_of {l : PySem.W.OpenLaw} {w : World} {K : PySem.W.Frag} {k : Nat} {mg : Str → Option Value} {fa : Addr} {h : Heap}
    (key : ∃ (fd : FuncData) (cs : List (Addr × Addr)), (∀ p ∈ cs, h.get? p.2 = some { cls := .none, data := .fields #[] }) ∧ (∀ p ∈ cs, K.lookup p.2 = none) ∧ (∀ p ∈ cs, PySem.W.CodeHd h p.1 p.2) ∧ (∀ (s : Shared) (v : Value), BindsTo s fd ⟨[v], []⟩ [("script", v)]) ∧
      ∀ base : Heap, K.In base → base.Ns mainGlobals mg → (∀ p ∈ cs, LamX.TabB base mg p.1 p.2) → FnOk l.prog w K mg base (L2.CX l.prog w) k fa fd ["script"] (spLaw K (cs.map (·.2)))) : LamX.LawAtS l w K (L2.CX l.prog w) k 63 "script" mg fa h := by
  obtain ⟨fd, cs, h1, h2, h3, h4, h5⟩ := key
  exact ⟨fd, cs, spLaw K (cs.map (·.2)), h1, h2, h3, h4, fun H a ns hl _ hp hS => ⟨rfl, a, ns, rfl, hl, fun p hp' => by obtain ⟨q, hq, rfl⟩ := List.mem_map.mp hp'; exact hp q hq, hS, fun _ => rfl⟩, h5⟩
/-- what a text's list holds -/
def look {α : Type} : List (Str × α) → Str → Option α
  | [], _ => none
  | p :: r, f => if f = p.1 then some p.2 else look r f
theorem look_mem {α : Type} {f : Str} {d : α} : ∀ {l : List (Str × α)}, look l f = some d → (f, d) ∈ l
  | [], h => by cases h
  | p :: r, h => by
    unfold look at h
    split at h
    · rename_i e
      subst e
      cases h
      exact List.mem_cons_self ..
    · exact List.mem_cons_of_mem _ (look_mem h)
theorem all_nil {α : Type} {p : α → Prop} : ∀ x ∈ ([] : List α), p x := fun x h => by cases h
theorem all_cons {α : Type} {p : α → Prop} {a : α} {l : List α} (h : p a) (t : ∀ x ∈ l, p x) : ∀ x ∈ a :: l, p x := fun x hx => by
  rcases List.mem_cons.mp hx with rfl | hx
  · exact h
  · exact t x hx
theorem ga_of {mg : Str → Option Value} {x : Str} {a : Addr} (h : mg x = some (.ref a)) : gaOf mg x = a := by unfold gaOf; rw [h]
theorem con_int {g : Glo} {mg : Str → Option Value} {x : Str} {i : Int} {t : Tok} (h : mg x = some (.int i t)) : ∃ u v, mg x = some u ∧ RelV v u ∧ ∀ ι H, RD g ι H (.int i) v := ⟨_, .int i, h, ⟨_, rfl⟩, fun _ _ => .int i⟩
theorem con_str {g : Glo} {mg : Str → Option Value} {x z : Str} {t : Tok} (h : mg x = some (.str z t)) : ∃ u v, mg x = some u ∧ RelV v u ∧ ∀ ι H, RD g ι H (.str z) v := ⟨_, .str z, h, ⟨_, rfl⟩, fun _ _ => .str z⟩
/-- what a written value is -/
inductive RK (g : Glo) : Fy.D → Value → V → Prop
  | non : RK g .non .none .non
  | bl (b : Bool) : RK g (.bl b) (.bool b) (.bl b)
  | int (i : Int) (t : Tok) : RK g (.int i) (.int i t) (.int i)
  | str (x : Str) (t : Tok) : RK g (.str x) (.str x t) (.str x)
  | ref {d : Fy.D} {a : Addr} (h : ∀ ι H, RD g ι H d (.ref a)) : RK g d (.ref a) (.ref a)
theorem RK.rel {g : Glo} {d : Fy.D} {u : Value} {v : V} (h : RK g d u v) : RelV v u := by
  cases h <;> first | rfl | exact ⟨_, rfl⟩
theorem RK.rd {g : Glo} {d : Fy.D} {u : Value} {v : V} (h : RK g d u v) (ι : List Addr) (H : Hp) : RD g ι H d v := by
  cases h with
  | non => exact .non
  | bl b => exact .bl b
  | int i t => exact .int i
  | str x t => exact .str x
  | ref h => exact h ι H
inductive RKs (g : Glo) : List Fy.D → List Value → List V → Prop
  | nil : RKs g [] [] []
  | cons {d : Fy.D} {u : Value} {v : V} {ds : List Fy.D} {us : List Value} {vs : List V} : RK g d u v → RKs g ds us vs → RKs g (d :: ds) (u :: us) (v :: vs)
theorem RKs.vals {g : Glo} : ∀ {ds : List Fy.D} {us : List Value} {vs : List V}, RKs g ds us vs → Vals vs us
  | _, _, _, .nil => .nil
  | _, _, _, .cons r t => .cons r.rel t.vals
theorem RKs.rds {g : Glo} (ι : List Addr) (H : Hp) : ∀ {ds : List Fy.D} {us : List Value} {vs : List V}, RKs g ds us vs → RDs g ι H ds vs
  | _, _, _, .nil => .nil
  | _, _, _, .cons r t => .cons (r.rd ι H) (t.rds ι H)
/-- a written tuple -/
theorem rk_tup {g : Glo} {a : Addr} {o : Obj} {its : Array Value} {n : Nat} {ds : List Fy.D} {vs : List V} (h : g.K.lookup a = some o) (hc : o.cls = .type "tuple") (hd : o.data = .seq its n) (hz : its.size ≤ sizeLine) (r : RKs g ds its.toList vs) : ∀ ι H, RD g ι H (.tup ds) (.ref a) := fun ι H => by
  refine .tup ?_ (r.rds ι H)
  exact .inr ⟨o, its, n, h, hc, hd, hz, r.vals⟩
theorem con_rk {g : Glo} {mg : Str → Option Value} {x : Str} {u : Value} {d : Fy.D} {v : V} (h : mg x = some u) (r : RK g d u v) : ∃ u v, mg x = some u ∧ RelV v u ∧ ∀ ι H, RD g ι H d v := ⟨u, v, h, r.rel, r.rd⟩
theorem xc_mk {g : Glo} {P : Program} {w : World} {mg : Str → Option Value} {base : Heap} {c : Str} {C fI : Addr} {qual : Str} {params : Arguments} {body : List Stmt} {scope : Scope} {dV kV doc pm cdv ct : Value} {an : Option Addr} (hm : mg c = some (.ref C)) (hg : g.ga c = C)
    (T : XcC P g.K mg C fI qual params body scope dV kV doc pm cdv ct an) (hi : PySem.W.findIn g.K (.ref C) "__init__" = some (some (.ref fI))) (ht : PySem.W.typeIn g.K (.ref fI) = some (.type "function"))
    (hb : ∀ (cc : Addr) (us : List Value), us.length = 2 → bindArgs (PySem.W.ksFn "__init__" qual params body scope dV kV doc pm an cdv ct cc) ⟨us, []⟩ = pure (([("self" : Str), "at"] : List Str).zip us)) : XcOk g P w mg base c := by
  obtain ⟨fd, hl, ⟨cc, rfl⟩, F⟩ := xc_init (w := w) (base := base) (k := 0) T
  exact ⟨C, fI, _, hm, hg, T.oex, hi, ht, F, .all fun us hl => hb _ us hl⟩
end Fy
end
section
set_option Elab.async false
set_option linter.all false
set_option maxRecDepth 100000
namespace K61
open PySem L2 Fy
/-! ### the text, by places -/
def top (i : Nat) : Stmt := PySem.Challenge.pw_fairneed_k61_whole_machines_and_what_the.main.body.getD i (.Pass ⟨0, 0, 0, 0⟩)
abbrev st_is_integer : Stmt := top 4
abbrev st_is_number : Stmt := top 5
abbrev st_is_size : Stmt := top 6
abbrev st_lot_at : Stmt := top 11
abbrev st_number_at : Stmt := top 12
abbrev st_lots_of : Stmt := top 13
abbrev st_is_memory : Stmt := top 14
abbrev st_is_machine : Stmt := top 15
abbrev st_run_by : Stmt := top 16
abbrev st_memories_of : Stmt := top 17
abbrev st__law_well : Stmt := top 19
abbrev st__law_dip : Stmt := top 20
abbrev st__law_one : Stmt := top 21
abbrev st__law_like : Stmt := top 22
abbrev st__law_heard : Stmt := top 23
abbrev st__law_wronged : Stmt := top 24
abbrev st__law_lots : Stmt := top 25
abbrev st__law_come : Stmt := top 26
abbrev st__law_machine : Stmt := top 27
abbrev st__law_wrong : Stmt := top 28
abbrev st_law : Stmt := top 29
abbrev st_Refused : Stmt := inCls (top 2) 0
/-! ### the IR -/
def f_is_integer : Fn := ⟨1, 1, [],
    (.cons (.ret (.and2 (.bi .isinst (.cons (.var 0) (.cons (.tyn "int" "int") .nil))) (.not1 (.bi .isinst (.cons (.var 0) (.cons (.tyn "bool" "bool") .nil))))))
    .nil)⟩
def f_is_number : Fn := ⟨2, 2, [.non],
    (.cons (.ret (.and2 (.call "is_integer" (.cons (.var 0) .nil)) (.and2 (.cmp .ge (.var 0) (.int 0)) (.or2 (.cmp .is (.var 1) .non) (.cmp .le (.var 0) (.var 1))))))
    .nil)⟩
def f_is_size : Fn := ⟨2, 2, [],
    (.cons (.ret (.and2 (.call "is_number" (.cons (.var 0) (.cons (.var 1) .nil))) (.cmp .gt (.var 0) (.int 0))))
    .nil)⟩
def f_lot_at : Fn := ⟨2, 3, [],
    (.cons (.ret (.bi .tuple (.cons (.lc [("i", 2)] (.nm 2) (.rng (.cons (.var 0) .nil)) (.some (.cmp .eq (.bin .mod (.bin .fdiv (.var 1) (.idx (.con "POWERS" (.tup [(.int 1), (.int 2), (.int 4), (.int 8), (.int 16), (.int 32)])) (.var 2))) (.int 2)) (.int 1))) (.var 2)) .nil)))
    .nil)⟩
def f_number_at : Fn := ⟨1, 2, [],
    (.cons (.ret (.bi .sum (.cons (.lc [("i", 1)] (.nm 1) (.seq (.var 0)) .none (.idx (.con "POWERS" (.tup [(.int 1), (.int 2), (.int 4), (.int 8), (.int 16), (.int 32)])) (.var 1))) .nil)))
    .nil)⟩
def f_lots_of : Fn := ⟨1, 2, [],
    (.cons (.ite (.not1 (.call "is_size" (.cons (.var 0) (.cons (.con "MOST_MANY" (.int 5)) .nil)))) (.cons (.raise "Refused" (.cons (.str "many") .nil))
    .nil) .nil)
    (.cons (.ret (.bi .tuple (.cons (.lc [("number", 1)] (.nm 1) (.rng (.cons (.int 1) (.cons (.idx (.con "POWERS" (.tup [(.int 1), (.int 2), (.int 4), (.int 8), (.int 16), (.int 32)])) (.var 0)) .nil))) .none (.call "lot_at" (.cons (.var 0) (.cons (.var 1) .nil)))) .nil)))
    .nil))⟩
def f_is_memory : Fn := ⟨3, 5, [],
    (.cons (.ite (.or2 (.not1 (.bi .isinst (.cons (.var 2) (.cons (.tyn "tuple" "tuple") .nil)))) (.cmp .ne (.bi .len (.cons (.var 2) .nil)) (.bin .sub (.idx (.con "POWERS" (.tup [(.int 1), (.int 2), (.int 4), (.int 8), (.int 16), (.int 32)])) (.var 0)) (.int 1)))) (.cons (.ret (.bl false))
    .nil) .nil)
    (.cons (.for_ (.tp (.cons (.nm 3) (.cons (.nm 4) .nil))) (.enum (.var 2)) (.cons (.ite (.or2 (.not1 (.bi .isinst (.cons (.var 4) (.cons (.tyn "tuple" "tuple") .nil)))) (.cmp .ne (.bi .len (.cons (.var 4) .nil)) (.int 2))) (.cons (.ret (.bl false))
    .nil) .nil)
    (.cons (.ite (.or2 (.not1 (.call "is_number" (.cons (.idx (.var 4) (.int 0)) .nil))) (.not1 (.call "is_number" (.cons (.idx (.var 4) (.int 1)) (.cons (.bin .sub (.var 1) (.int 1)) .nil))))) (.cons (.ret (.bl false))
    .nil) .nil)
    (.cons (.ite (.cmp .notin (.idx (.var 4) (.int 0)) (.call "lot_at" (.cons (.var 0) (.cons (.bin .add (.var 3) (.int 1)) .nil)))) (.cons (.ret (.bl false))
    .nil) .nil)
    .nil))))
    (.cons (.ret (.bl true))
    .nil)))⟩
def f_is_machine : Fn := ⟨2, 3, [],
    (.cons (.ite (.not1 (.call "is_size" (.cons (.var 0) (.cons (.con "MOST_MANY" (.int 5)) .nil)))) (.cons (.raise "Refused" (.cons (.str "many") .nil))
    .nil) .nil)
    (.cons (.ite (.or2 (.not1 (.bi .isinst (.cons (.var 1) (.cons (.tyn "tuple" "tuple") .nil)))) (.or2 (.cmp .ne (.bi .len (.cons (.var 1) .nil)) (.int 2)) (.not1 (.bi .isinst (.cons (.idx (.var 1) (.int 1)) (.cons (.tyn "tuple" "tuple") .nil)))))) (.cons (.ret (.bl false))
    .nil) .nil)
    (.cons (.ite (.or2 (.not1 (.call "is_size" (.cons (.bi .len (.cons (.idx (.var 1) (.int 1)) .nil)) (.cons (.con "MOST_MEMORIES" (.int 5000)) .nil)))) (.not1 (.call "is_number" (.cons (.idx (.var 1) (.int 0)) (.cons (.bin .sub (.bi .len (.cons (.idx (.var 1) (.int 1)) .nil)) (.int 1)) .nil))))) (.cons (.ret (.bl false))
    .nil) .nil)
    (.cons (.ret (.bi .all (.cons (.lc [("row", 2)] (.nm 2) (.seq (.idx (.var 1) (.int 1))) .none (.call "is_memory" (.cons (.var 0) (.cons (.bi .len (.cons (.idx (.var 1) (.int 1)) .nil)) (.cons (.var 2) .nil))))) .nil)))
    .nil))))⟩
def f_run_by : Fn := ⟨2, 6, [],
    (.cons (.par2 2 3 (.idx (.var 0) (.int 0)) (.lst .nil))
    (.cons (.for_ (.nm 4) (.seq (.var 1)) (.cons (.asg (.tp (.cons (.nm 5) (.cons (.nm 2) .nil))) (.idx (.idx (.idx (.var 0) (.int 1)) (.var 2)) (.bin .sub (.call "number_at" (.cons (.var 4) .nil)) (.int 1))))
    (.cons (.expr (.app (.var 3) (.cons (.var 5) .nil)))
    .nil)))
    (.cons (.ret (.tup (.cons (.bi .tuple (.cons (.var 3) .nil)) (.cons (.var 2) .nil))))
    .nil)))⟩
def f_memories_of : Fn := ⟨1, 6, [],
    (.cons (.par3 1 2 3 (.lst (.cons (.idx (.var 0) (.int 0)) .nil)) (.dic1 (.idx (.var 0) (.int 0)) (.bl true)) (.int 0))
    (.cons (.while_ (.cmp .lt (.var 3) (.bi .len (.cons (.var 1) .nil))) (.cons (.for_ (.tp (.cons (.nm 4) (.cons (.nm 5) .nil))) (.seq (.idx (.idx (.var 0) (.int 1)) (.idx (.var 1) (.var 3)))) (.cons (.ite (.cmp .notin (.var 5) (.var 2)) (.cons (.put (.var 2) (.var 5) (.bl true))
    (.cons (.expr (.app (.var 1) (.cons (.var 5) .nil)))
    .nil)) .nil)
    .nil))
    (.cons (.aug 3 .add (.int 1))
    .nil)))
    (.cons (.ret (.bi .tuple (.cons (.bi .sorted (.cons (.var 1) .nil)) .nil)))
    .nil)))⟩
def f__law_well : Fn := ⟨2, 3, [],
    (.cons (.asg (.nm 2) (.bin .add (.bin .mul (.int 5501) (.var 1)) (.int 733)))
    (.cons (.ite (.cmp .lt (.var 1) (.bi .len (.cons (.var 0) .nil))) (.cons (.asg (.nm 2) (.bin .mod (.bi .int (.cons (.bi .abs (.cons (.idx (.var 0) (.var 1)) .nil)) .nil)) (.bin .pow (.int 10) (.int 60))))
    .nil) (.cons (.ite (.cmp .gt (.bi .len (.cons (.var 0) .nil)) (.int 0)) (.cons (.asg (.nm 2) (.bin .add (.var 2) (.bin .mul (.bin .mod (.bi .int (.cons (.bi .abs (.cons (.idx (.var 0) (.bin .mod (.bi .int (.cons (.var 1) .nil)) (.bi .len (.cons (.var 0) .nil)))) .nil)) .nil)) (.int 2147483563)) (.int 60013))))
    .nil) .nil)
    .nil))
    (.cons (.ret (.lst (.cons (.idx (.lst (.cons (.int 0) (.cons (.var 2) .nil))) (.bi .int (.cons (.cmp .ge (.var 2) (.bin .pow (.int 10) (.int 18))) .nil))) (.cons (.bin .add (.bin .mod (.bi .int (.cons (.bin .add (.bin .mul (.bin .mod (.bi .int (.cons (.var 2) .nil)) (.int 2147483563)) (.int 45007)) (.bin .mul (.int 42013) (.var 1))) .nil)) (.int 2147483563)) (.int 1)) (.cons (.int 0) .nil)))))
    .nil)))⟩
def f__law_dip : Fn := ⟨2, 4, [],
    (.cons (.ite (.cmp .gt (.idx (.var 0) (.int 0)) (.int 0)) (.cons (.asg (.nm 2) (.bin .mod (.bi .int (.cons (.idx (.var 0) (.int 0)) .nil)) (.var 1)))
    (.cons (.put (.var 0) (.int 0) (.bin .fdiv (.idx (.var 0) (.int 0)) (.var 1)))
    (.cons (.ret (.var 2))
    .nil))) .nil)
    (.cons (.put (.var 0) (.int 2) (.bin .add (.idx (.var 0) (.int 2)) (.int 1)))
    (.cons (.asg (.nm 3) (.bin .mod (.bi .int (.cons (.bin .add (.bin .mul (.bin .add (.idx (.var 0) (.int 1)) (.bin .mul (.int 88001) (.idx (.var 0) (.int 2)))) (.int 57037)) (.int 61)) .nil)) (.int 2147483549)))
    (.cons (.put (.var 0) (.int 1) (.bin .add (.bin .mod (.bi .int (.cons (.bin .add (.bin .mul (.var 3) (.int 41141)) (.int 21013)) .nil)) (.int 2147483563)) (.int 1)))
    (.cons (.ret (.bin .mod (.bi .int (.cons (.bin .fdiv (.bin .add (.bin .mul (.var 3) (.int 2147483587)) (.idx (.var 0) (.int 1))) (.int 8209)) .nil)) (.var 1)))
    .nil)))))⟩
def f__law_one : Fn := ⟨2, 2, [],
    (.cons (.ret (.idx (.var 1) (.call "_law_dip" (.cons (.var 0) (.cons (.bi .len (.cons (.var 1) .nil)) .nil)))))
    .nil)⟩
def f__law_like : Fn := ⟨2, 3, [],
    (.cons (.ite (.bi .isinst (.cons (.var 1) (.cons (.tyn "tuple" "tuple") .nil))) (.cons (.ret (.and2 (.bi .isinst (.cons (.var 0) (.cons (.tyn "tuple" "tuple") .nil))) (.and2 (.cmp .eq (.bi .len (.cons (.var 0) .nil)) (.bi .len (.cons (.var 1) .nil))) (.bi .all (.cons (.lc [("at", 2)] (.nm 2) (.rng (.cons (.bi .len (.cons (.var 1) .nil)) .nil)) .none (.call "_law_like" (.cons (.idx (.var 0) (.var 2)) (.cons (.idx (.var 1) (.var 2)) .nil)))) .nil)))))
    .nil) .nil)
    (.cons (.ite (.cmp .is (.var 1) .non) (.cons (.ret (.cmp .is (.var 0) .non))
    .nil) .nil)
    (.cons (.ite (.bi .isinst (.cons (.var 1) (.cons (.tyn "bool" "bool") .nil))) (.cons (.ret (.and2 (.bi .isinst (.cons (.var 0) (.cons (.tyn "bool" "bool") .nil))) (.cmp .eq (.var 0) (.var 1))))
    .nil) .nil)
    (.cons (.ite (.bi .isinst (.cons (.var 1) (.cons (.tyn "str" "str") .nil))) (.cons (.ret (.and2 (.bi .isinst (.cons (.var 0) (.cons (.tyn "str" "str") .nil))) (.cmp .eq (.var 0) (.var 1))))
    .nil) .nil)
    (.cons (.ret (.and2 (.bi .isinst (.cons (.var 0) (.cons (.tyn "int" "int") .nil))) (.and2 (.not1 (.bi .isinst (.cons (.var 0) (.cons (.tyn "bool" "bool") .nil)))) (.cmp .eq (.var 0) (.var 1)))))
    .nil)))))⟩
def f__law_wronged : Fn := ⟨2, 3, [],
    (.cons (.ite (.bi .isinst (.cons (.var 1) (.cons (.tyn "tuple" "tuple") .nil))) (.cons (.ite (.and2 (.cmp .ne (.var 1) (.tup .nil)) (.cmp .gt (.call "_law_dip" (.cons (.var 0) (.cons (.int 5) .nil))) (.int 0))) (.cons (.asg (.nm 2) (.call "_law_dip" (.cons (.var 0) (.cons (.bi .len (.cons (.var 1) .nil)) .nil))))
    (.cons (.ret (.bin .add (.bin .add (.slc (.var 1) .none (.some (.var 2))) (.tup (.cons (.call "_law_wronged" (.cons (.var 0) (.cons (.idx (.var 1) (.var 2)) .nil))) .nil))) (.slc (.var 1) (.some (.bin .add (.var 2) (.int 1))) .none)))
    .nil)) .nil)
    (.cons (.ret (.call "_law_one" (.cons (.var 0) (.cons (.lst (.cons (.bi .list (.cons (.var 1) .nil)) (.cons (.bin .add (.var 1) (.tup (.cons .non .nil))) .nil))) .nil))))
    .nil)) .nil)
    (.cons (.ite (.and2 (.bi .isinst (.cons (.var 1) (.cons (.tyn "int" "int") .nil))) (.and2 (.chain .le .lt (.int 0) (.var 1) (.int 2)) (.cmp .gt (.call "_law_dip" (.cons (.var 0) (.cons (.int 3) .nil))) (.int 0)))) (.cons (.ret (.cmp .eq (.var 1) (.int 1)))
    .nil) .nil)
    (.cons (.ret (.call "_law_one" (.cons (.var 0) (.cons (.lst (.cons .non (.cons (.lst (.cons (.var 1) .nil)) .nil))) .nil))))
    .nil)))⟩
def f__law_lots : Fn := ⟨1, 4, [],
    (.cons (.asg (.nm 1) (.lst (.cons (.tup .nil) .nil)))
    (.cons (.for_ (.nm 2) (.rng (.cons (.var 0) .nil)) (.cons (.asg (.nm 1) (.bin .add (.var 1) (.lc [("lot", 3)] (.nm 3) (.seq (.var 1)) .none (.bin .add (.var 3) (.tup (.cons (.var 2) .nil))))))
    .nil))
    (.cons (.ret (.slc (.var 1) (.some (.int 1)) .none))
    .nil)))⟩
def f__law_come : Fn := ⟨1, 6, [],
    (.cons (.par2 1 2 (.lst (.cons (.idx (.var 0) (.int 0)) .nil)) (.dic1 (.idx (.var 0) (.int 0)) (.bl true)))
    (.cons (.for_ (.nm 3) (.rng (.cons (.bi .len (.cons (.idx (.var 0) (.int 1)) .nil)) .nil)) (.cons (.ite (.cmp .lt (.var 3) (.bi .len (.cons (.var 1) .nil))) (.cons (.for_ (.tp (.cons (.nm 4) (.cons (.nm 5) .nil))) (.seq (.idx (.idx (.var 0) (.int 1)) (.idx (.var 1) (.var 3)))) (.cons (.ite (.cmp .notin (.var 5) (.var 2)) (.cons (.put (.var 2) (.var 5) (.bl true))
    (.cons (.expr (.app (.var 1) (.cons (.var 5) .nil)))
    .nil)) .nil)
    .nil))
    .nil) .nil)
    .nil))
    (.cons (.ret (.bi .sorted (.cons (.var 1) .nil)))
    .nil)))⟩
def f__law_machine : Fn := ⟨3, 7, [],
    (.cons (.par2 3 4 (.call "_law_lots" (.cons (.var 1) .nil)) (.lst .nil))
    (.cons (.for_ (.nm 5) (.rng (.cons (.var 2) .nil)) (.cons (.expr (.app (.var 4) (.cons (.bi .tuple (.cons (.lc [("lot", 6)] (.nm 6) (.seq (.var 3)) .none (.tup (.cons (.idx (.var 6) (.bin .mod (.bi .int (.cons (.bin .add (.var 5) (.call "_law_dip" (.cons (.var 0) (.cons (.int 2) .nil)))) .nil)) (.bi .len (.cons (.var 6) .nil)))) (.cons (.bin .mod (.bi .int (.cons (.bin .add (.var 5) (.call "_law_dip" (.cons (.var 0) (.cons (.int 3) .nil)))) .nil)) (.var 2)) .nil)))) .nil)) .nil)))
    .nil))
    (.cons (.ret (.tup (.cons (.call "_law_dip" (.cons (.var 0) (.cons (.var 2) .nil))) (.cons (.bi .tuple (.cons (.var 4) .nil)) .nil))))
    .nil)))⟩
def f__law_wrong : Fn := ⟨3, 16, [],
    (.cons (.asg (.tp (.cons (.nm 3) (.cons (.nm 4) .nil))) (.var 2))
    (.cons (.asg (.tp (.cons (.nm 5) (.cons (.nm 6) .nil))) (.tup (.cons (.call "_law_dip" (.cons (.var 0) (.cons (.bi .len (.cons (.var 4) .nil)) .nil))) (.cons (.call "_law_dip" (.cons (.var 0) (.cons (.bi .len (.cons (.idx (.var 4) (.int 0)) .nil)) .nil))) .nil))))
    (.cons (.asg (.tp (.cons (.nm 7) (.cons (.nm 8) .nil))) (.idx (.idx (.var 4) (.var 5)) (.var 6)))
    (.cons (.asg (.nm 9) (.idx (.call "_law_lots" (.cons (.var 1) .nil)) (.var 6)))
    (.cons (.asg (.nm 10) (.bin .add (.lc [("one", 14)] (.nm 14) (.rng (.cons (.var 1) .nil)) (.some (.cmp .notin (.var 14) (.var 9))) (.var 14)) (.lst (.cons (.var 1) (.cons (.neg (.int 1)) (.cons .non .nil))))))
    (.cons (.asg (.nm 11) (.lst (.cons (.tup (.cons (.call "_law_one" (.cons (.var 0) (.cons (.var 10) .nil))) (.cons (.var 8) .nil))) (.cons (.tup (.cons (.var 7) (.cons (.bi .len (.cons (.var 4) .nil)) .nil))) (.cons (.tup (.cons (.var 7) (.cons (.neg (.int 1)) .nil))) (.cons (.tup (.cons (.var 7) (.cons .non .nil))) (.cons (.tup (.cons (.var 7) .nil)) (.cons (.tup (.cons (.var 7) (.cons (.var 8) (.cons (.int 0) .nil)))) (.cons (.lst (.cons (.var 7) (.cons (.var 8) .nil))) (.cons .non .nil))))))))))
    (.cons (.asgLc 12 [("pair", 15)] (.nm 15) (.seq (.var 11)) .none (.bin .add (.bin .add (.slc (.var 4) .none (.some (.var 5))) (.tup (.cons (.bin .add (.bin .add (.slc (.idx (.var 4) (.var 5)) .none (.some (.var 6))) (.tup (.cons (.var 15) .nil))) (.slc (.idx (.var 4) (.var 5)) (.some (.bin .add (.var 6) (.int 1))) .none)) .nil))) (.slc (.var 4) (.some (.bin .add (.var 5) (.int 1))) .none)))
    (.cons (.asg (.nm 12) (.bin .add (.var 12) (.lst (.cons (.bin .add (.bin .add (.slc (.var 4) .none (.some (.var 5))) (.tup (.cons (.slc (.idx (.var 4) (.var 5)) (.some (.int 1)) .none) .nil))) (.slc (.var 4) (.some (.bin .add (.var 5) (.int 1))) .none)) (.cons (.bin .add (.bin .add (.slc (.var 4) .none (.some (.var 5))) (.tup (.cons (.bin .add (.idx (.var 4) (.var 5)) (.slc (.idx (.var 4) (.var 5)) .none (.some (.int 1)))) .nil))) (.slc (.var 4) (.some (.bin .add (.var 5) (.int 1))) .none)) (.cons (.bin .add (.bin .add (.slc (.var 4) .none (.some (.var 5))) (.tup (.cons (.bi .list (.cons (.idx (.var 4) (.var 5)) .nil)) .nil))) (.slc (.var 4) (.some (.bin .add (.var 5) (.int 1))) .none)) (.cons (.bi .list (.cons (.var 4) .nil)) (.cons (.tup .nil) (.cons .non .nil)))))))))
    (.cons (.asgLc 13 [("one", 14)] (.nm 14) (.seq (.var 12)) .none (.tup (.cons (.var 3) (.cons (.var 14) .nil))))
    (.cons (.ret (.call "_law_one" (.cons (.var 0) (.cons (.bin .add (.var 13) (.lst (.cons (.tup (.cons (.bi .len (.cons (.var 4) .nil)) (.cons (.var 4) .nil))) (.cons (.tup (.cons (.neg (.int 1)) (.cons (.var 4) .nil))) (.cons (.tup (.cons .non (.cons (.var 4) .nil))) (.cons (.tup (.cons (.var 3) .nil)) (.cons (.tup (.cons (.var 3) (.cons (.var 4) (.cons (.int 0) .nil)))) (.cons (.lst (.cons (.var 3) (.cons (.var 4) .nil))) (.cons .non (.cons (.var 4) .nil)))))))))) .nil))))
    .nil))))))))))⟩
def f_law : Fn := ⟨1, 15, [],
    (.cons (.asg (.nm 1) (.call "_law_well" (.cons (.var 0) (.cons (.int 0) .nil))))
    (.cons (.for_ (.nm 2) (.rng (.cons (.int 1) (.cons (.int 6) .nil))) (.cons (.ite (.not1 (.call "_law_like" (.cons (.call "lots_of" (.cons (.var 2) .nil)) (.cons (.bi .tuple (.cons (.call "_law_lots" (.cons (.var 2) .nil)) .nil)) .nil)))) (.cons (.ret (.bl false))
    .nil) .nil)
    .nil))
    (.cons (.for_ (.nm 3) (.rng (.cons (.int 6) .nil)) (.cons (.asg (.nm 2) (.bin .add (.int 1) (.call "_law_dip" (.cons (.var 1) (.cons (.int 5) .nil)))))
    (.cons (.asg (.tp (.cons (.nm 4) (.cons (.nm 5) .nil))) (.tup (.cons (.call "_law_machine" (.cons (.var 1) (.cons (.var 2) (.cons (.bin .add (.int 1) (.call "_law_dip" (.cons (.var 1) (.cons (.int 9) .nil)))) .nil)))) (.cons (.call "_law_lots" (.cons (.var 2) .nil)) .nil))))
    (.cons (.ite (.or2 (.cmp .isnot (.call "is_machine" (.cons (.var 2) (.cons (.var 4) .nil))) (.bl true)) (.cmp .isnot (.call "is_machine" (.cons (.var 2) (.cons (.call "_law_wrong" (.cons (.var 1) (.cons (.var 2) (.cons (.var 4) .nil)))) .nil))) (.bl false))) (.cons (.ret (.bl false))
    .nil) .nil)
    (.cons (.ite (.cmp .isnot (.call "is_machine" (.cons (.var 2) (.cons (.call "_law_wronged" (.cons (.var 1) (.cons (.var 4) .nil))) .nil))) (.bl false)) (.cons (.ret (.bl false))
    .nil) .nil)
    (.cons (.asg (.nm 6) (.bin .add (.int 1) (.call "_law_dip" (.cons (.var 1) (.cons (.int 5) .nil)))))
    (.cons (.ite (.or2 (.not1 (.call "_law_like" (.cons (.call "is_machine" (.cons (.var 6) (.cons (.var 4) .nil))) (.cons (.cmp .eq (.var 6) (.var 2)) .nil)))) (.not1 (.call "_law_like" (.cons (.call "memories_of" (.cons (.var 4) .nil)) (.cons (.bi .tuple (.cons (.call "_law_come" (.cons (.var 4) .nil)) .nil)) .nil))))) (.cons (.ret (.bl false))
    .nil) .nil)
    (.cons (.asg (.nm 7) (.bi .tuple (.cons (.lc [("beat", 14)] (.nm 14) (.rng (.cons (.call "_law_one" (.cons (.var 1) (.cons (.lst (.cons (.int 0) (.cons (.int 1) (.cons (.int 5) (.cons (.int 60) .nil))))) .nil))) .nil)) .none (.call "_law_one" (.cons (.var 1) (.cons (.var 5) .nil)))) .nil)))
    (.cons (.par2 8 9 (.idx (.var 4) (.int 0)) (.lst .nil))
    (.cons (.for_ (.nm 10) (.seq (.var 7)) (.cons (.asg (.tp (.cons (.nm 11) (.cons (.nm 8) .nil))) (.idx (.idx (.idx (.var 4) (.int 1)) (.var 8)) (.me .idx (.var 5) (.cons (.var 10) .nil))))
    (.cons (.expr (.app (.var 9) (.cons (.var 11) .nil)))
    .nil)))
    (.cons (.ite (.not1 (.call "_law_like" (.cons (.call "run_by" (.cons (.var 4) (.cons (.var 7) .nil))) (.cons (.tup (.cons (.bi .tuple (.cons (.var 9) .nil)) (.cons (.var 8) .nil))) .nil)))) (.cons (.ret (.bl false))
    .nil) .nil)
    (.cons (.asg (.nm 12) (.call "_law_one" (.cons (.var 1) (.cons (.lst (.cons (.int 0) (.cons (.int 6) (.cons (.neg (.int 1)) (.cons .non (.cons (.bl true) (.cons (.str "1") (.cons (.tup (.cons (.int 1) .nil)) (.cons (.bin .pow (.int 10) (.int 30)) .nil))))))))) .nil))))
    (.cons (.ite (.cmp .ne (.heard "_law_heard" "Refused" (.call "lots_of" (.cons (.var 12) .nil))) (.str "many")) (.cons (.ret (.bl false))
    .nil) .nil)
    (.cons (.ite (.cmp .ne (.heard "_law_heard" "Refused" (.call "is_machine" (.cons (.var 12) (.cons (.var 4) .nil)))) (.str "many")) (.cons (.ret (.bl false))
    .nil) .nil)
    .nil))))))))))))))
    (.cons (.asg (.nm 13) (.tup (.cons (.bin .mul (.tup (.cons (.tup (.cons (.tup (.cons (.int 0) (.cons (.int 0) .nil))) .nil)) .nil)) (.int 5000)) (.cons (.bin .mul (.tup (.cons (.tup (.cons (.tup (.cons (.int 0) (.cons (.int 0) .nil))) .nil)) .nil)) (.int 5001)) .nil))))
    (.cons (.ret (.and2 (.cmp .is (.call "is_machine" (.cons (.int 1) (.cons (.tup (.cons (.int 0) (.cons (.idx (.var 13) (.int 0)) .nil))) .nil))) (.bl true)) (.cmp .is (.call "is_machine" (.cons (.int 1) (.cons (.tup (.cons (.int 0) (.cons (.idx (.var 13) (.int 1)) .nil))) .nil))) (.bl false))))
    .nil)))))⟩
def fnL : List (Str × Fn) := [("is_integer", f_is_integer), ("is_number", f_is_number), ("is_size", f_is_size), ("lot_at", f_lot_at), ("number_at", f_number_at), ("lots_of", f_lots_of), ("is_memory", f_is_memory), ("is_machine", f_is_machine), ("run_by", f_run_by), ("memories_of", f_memories_of), ("_law_well", f__law_well), ("_law_dip", f__law_dip), ("_law_one", f__law_one), ("_law_like", f__law_like), ("_law_wronged", f__law_wronged), ("_law_lots", f__law_lots), ("_law_come", f__law_come), ("_law_machine", f__law_machine), ("_law_wrong", f__law_wrong), ("law", f_law)]
def fns : Str → Option Fn := look fnL
def cns : Str → Option D := fun x =>
  if x = "MOST_MANY" then some (.int 5) else
  if x = "MOST_MEMORIES" then some (.int 5000) else
  if x = "POWERS" then some (.tup [(.int 1), (.int 2), (.int 4), (.int 8), (.int 16), (.int 32)]) else
  none
def xcn : Str → Bool := fun x => decide (x ∈ (["Refused"] : List Str))
def hdn : Str → Option Str := fun x =>
  if x = "_law_heard" then some "Refused" else
  none
def tbl : Tab := ⟨fns, cns, xcn, hdn, false⟩
/-! ### names and checks -/
theorem sc_is_integer : FnScope ["value"] ["value"] (defScope st_is_integer) := ⟨rfl, rfl, rfl, by decide +kernel, rfl, by decide +kernel, by decide +kernel⟩
theorem sc_is_number : FnScope ["value", "most"] ["value", "most"] (defScope st_is_number) := ⟨rfl, rfl, rfl, by decide +kernel, rfl, by decide +kernel, by decide +kernel⟩
theorem sc_is_size : FnScope ["value", "most"] ["value", "most"] (defScope st_is_size) := ⟨rfl, rfl, rfl, by decide +kernel, rfl, by decide +kernel, by decide +kernel⟩
theorem sc_lot_at : FnScope ["many", "number", "i"] ["many", "number"] (defScope st_lot_at) := ⟨rfl, rfl, rfl, by decide +kernel, rfl, by decide +kernel, by decide +kernel⟩
theorem sc_number_at : FnScope ["lot", "i"] ["lot"] (defScope st_number_at) := ⟨rfl, rfl, rfl, by decide +kernel, rfl, by decide +kernel, by decide +kernel⟩
theorem sc_lots_of : FnScope ["many", "number"] ["many"] (defScope st_lots_of) := ⟨rfl, rfl, rfl, by decide +kernel, rfl, by decide +kernel, by decide +kernel⟩
theorem sc_is_memory : FnScope ["many", "memories", "value", "at", "pair"] ["many", "memories", "value"] (defScope st_is_memory) := ⟨rfl, rfl, rfl, by decide +kernel, rfl, by decide +kernel, by decide +kernel⟩
theorem sc_is_machine : FnScope ["many", "value", "row"] ["many", "value"] (defScope st_is_machine) := ⟨rfl, rfl, rfl, by decide +kernel, rfl, by decide +kernel, by decide +kernel⟩
theorem sc_run_by : FnScope ["machine", "lots", "memory", "found", "lot", "i"] ["machine", "lots"] (defScope st_run_by) := ⟨rfl, rfl, rfl, by decide +kernel, rfl, by decide +kernel, by decide +kernel⟩
theorem sc_memories_of : FnScope ["machine", "row", "seen", "at", "i", "behind"] ["machine"] (defScope st_memories_of) := ⟨rfl, rfl, rfl, by decide +kernel, rfl, by decide +kernel, by decide +kernel⟩
theorem sc__law_well : FnScope ["script", "k", "cell"] ["script", "k"] (defScope st__law_well) := ⟨rfl, rfl, rfl, by decide +kernel, rfl, by decide +kernel, by decide +kernel⟩
theorem sc__law_dip : FnScope ["well", "many", "digit", "raw"] ["well", "many"] (defScope st__law_dip) := ⟨rfl, rfl, rfl, by decide +kernel, rfl, by decide +kernel, by decide +kernel⟩
theorem sc__law_one : FnScope ["well", "some"] ["well", "some"] (defScope st__law_one) := ⟨rfl, rfl, rfl, by decide +kernel, rfl, by decide +kernel, by decide +kernel⟩
theorem sc__law_like : FnScope ["told", "due", "at"] ["told", "due"] (defScope st__law_like) := ⟨rfl, rfl, rfl, by decide +kernel, rfl, by decide +kernel, by decide +kernel⟩
theorem sc__law_heard : FnScope ["work", "e"] ["work"] (defScope st__law_heard) := ⟨rfl, rfl, rfl, by decide +kernel, rfl, by decide +kernel, by decide +kernel⟩
theorem sc__law_wronged : FnScope ["well", "value", "at"] ["well", "value"] (defScope st__law_wronged) := ⟨rfl, rfl, rfl, by decide +kernel, rfl, by decide +kernel, by decide +kernel⟩
theorem sc__law_lots : FnScope ["many", "found", "i", "lot"] ["many"] (defScope st__law_lots) := ⟨rfl, rfl, rfl, by decide +kernel, rfl, by decide +kernel, by decide +kernel⟩
theorem sc__law_come : FnScope ["machine", "row", "seen", "at", "i", "behind"] ["machine"] (defScope st__law_come) := ⟨rfl, rfl, rfl, by decide +kernel, rfl, by decide +kernel, by decide +kernel⟩
theorem sc__law_machine : FnScope ["well", "many", "memories", "lots", "rows", "memory", "lot"] ["well", "many", "memories"] (defScope st__law_machine) := ⟨rfl, rfl, rfl, by decide +kernel, rfl, by decide +kernel, by decide +kernel⟩
theorem sc__law_wrong : FnScope ["well", "many", "machine", "begin", "rows", "at", "to", "i", "behind", "lot", "out", "pairs", "bent", "odd", "one", "pair"] ["well", "many", "machine"] (defScope st__law_wrong) := ⟨rfl, rfl, rfl, by decide +kernel, rfl, by decide +kernel, by decide +kernel⟩
theorem sc_law : FnScope ["script", "well", "many", "turn", "machine", "lots", "other", "row", "memory", "due", "lot", "i", "wrong", "rows", "beat"] ["script"] (defScope st_law) := ⟨rfl, rfl, rfl, by decide +kernel, rfl, by decide +kernel, by decide +kernel⟩
theorem ck_is_integer : ckSs (tbl.flag false) (defScope st_is_integer) (fun _ => true) ["value"] f_is_integer.body (defBody st_is_integer) = true := by decide +kernel
theorem ck_is_number : ckSs (tbl.flag false) (defScope st_is_number) (fun _ => true) ["value", "most"] f_is_number.body (defBody st_is_number) = true := by decide +kernel
theorem ck_is_size : ckSs (tbl.flag false) (defScope st_is_size) (fun _ => true) ["value", "most"] f_is_size.body (defBody st_is_size) = true := by decide +kernel
theorem ck_lot_at : ckSs (tbl.flag false) (defScope st_lot_at) (fun _ => true) ["many", "number", "i"] f_lot_at.body (defBody st_lot_at) = true := by decide +kernel
theorem ck_number_at : ckSs (tbl.flag false) (defScope st_number_at) (fun _ => true) ["lot", "i"] f_number_at.body (defBody st_number_at) = true := by decide +kernel
theorem ck_lots_of : ckSs (tbl.flag false) (defScope st_lots_of) (fun _ => true) ["many", "number"] f_lots_of.body (defBody st_lots_of) = true := by decide +kernel
theorem ck_is_memory : ckSs (tbl.flag false) (defScope st_is_memory) (fun _ => true) ["many", "memories", "value", "at", "pair"] f_is_memory.body (defBody st_is_memory) = true := by decide +kernel
theorem ck_is_machine : ckSs (tbl.flag false) (defScope st_is_machine) (fun _ => true) ["many", "value", "row"] f_is_machine.body (defBody st_is_machine) = true := by decide +kernel
theorem ck_run_by : ckSs (tbl.flag false) (defScope st_run_by) (fun _ => true) ["machine", "lots", "memory", "found", "lot", "i"] f_run_by.body (defBody st_run_by) = true := by decide +kernel
theorem ck_memories_of : ckSs (tbl.flag false) (defScope st_memories_of) (fun _ => true) ["machine", "row", "seen", "at", "i", "behind"] f_memories_of.body (defBody st_memories_of) = true := by decide +kernel
theorem ck__law_well : ckSs (tbl.flag false) (defScope st__law_well) (fun _ => true) ["script", "k", "cell"] f__law_well.body (defBody st__law_well) = true := by decide +kernel
theorem ck__law_dip : ckSs (tbl.flag false) (defScope st__law_dip) (fun _ => true) ["well", "many", "digit", "raw"] f__law_dip.body (defBody st__law_dip) = true := by decide +kernel
theorem ck__law_one : ckSs (tbl.flag false) (defScope st__law_one) (fun _ => true) ["well", "some"] f__law_one.body (defBody st__law_one) = true := by decide +kernel
theorem ck__law_like : ckSs (tbl.flag false) (defScope st__law_like) (fun _ => true) ["told", "due", "at"] f__law_like.body (defBody st__law_like) = true := by decide +kernel
theorem ck__law_wronged : ckSs (tbl.flag false) (defScope st__law_wronged) (fun _ => true) ["well", "value", "at"] f__law_wronged.body (defBody st__law_wronged) = true := by decide +kernel
theorem ck__law_lots : ckSs (tbl.flag false) (defScope st__law_lots) (fun _ => true) ["many", "found", "i", "lot"] f__law_lots.body (defBody st__law_lots) = true := by decide +kernel
theorem ck__law_come : ckSs (tbl.flag false) (defScope st__law_come) (fun _ => true) ["machine", "row", "seen", "at", "i", "behind"] f__law_come.body (defBody st__law_come) = true := by decide +kernel
theorem ck__law_machine : ckSs (tbl.flag false) (defScope st__law_machine) (fun _ => true) ["well", "many", "memories", "lots", "rows", "memory", "lot"] f__law_machine.body (defBody st__law_machine) = true := by decide +kernel
theorem ck__law_wrong : ckSs (tbl.flag false) (defScope st__law_wrong) (fun _ => true) ["well", "many", "machine", "begin", "rows", "at", "to", "i", "behind", "lot", "out", "pairs", "bent", "odd", "one", "pair"] f__law_wrong.body (defBody st__law_wrong) = true := by decide +kernel
theorem ck_law : ckSs (tbl.flag true) (defScope st_law) (fun _ => true) ["script", "well", "many", "turn", "machine", "lots", "other", "row", "memory", "due", "lot", "i", "wrong", "rows", "beat"] f_law.body (defBody st_law) = true := by decide +kernel
theorem tbl_is_integer : tbl "is_integer" = some f_is_integer := by kernel_rfl
theorem tbl_is_number : tbl "is_number" = some f_is_number := by kernel_rfl
theorem tbl_is_size : tbl "is_size" = some f_is_size := by kernel_rfl
theorem tbl_lot_at : tbl "lot_at" = some f_lot_at := by kernel_rfl
theorem tbl_number_at : tbl "number_at" = some f_number_at := by kernel_rfl
theorem tbl_lots_of : tbl "lots_of" = some f_lots_of := by kernel_rfl
theorem tbl_is_memory : tbl "is_memory" = some f_is_memory := by kernel_rfl
theorem tbl_is_machine : tbl "is_machine" = some f_is_machine := by kernel_rfl
theorem tbl_run_by : tbl "run_by" = some f_run_by := by kernel_rfl
theorem tbl_memories_of : tbl "memories_of" = some f_memories_of := by kernel_rfl
theorem tbl__law_well : tbl "_law_well" = some f__law_well := by kernel_rfl
theorem tbl__law_dip : tbl "_law_dip" = some f__law_dip := by kernel_rfl
theorem tbl__law_one : tbl "_law_one" = some f__law_one := by kernel_rfl
theorem tbl__law_like : tbl "_law_like" = some f__law_like := by kernel_rfl
theorem tbl__law_wronged : tbl "_law_wronged" = some f__law_wronged := by kernel_rfl
theorem tbl__law_lots : tbl "_law_lots" = some f__law_lots := by kernel_rfl
theorem tbl__law_come : tbl "_law_come" = some f__law_come := by kernel_rfl
theorem tbl__law_machine : tbl "_law_machine" = some f__law_machine := by kernel_rfl
theorem tbl__law_wrong : tbl "_law_wrong" = some f__law_wrong := by kernel_rfl
theorem tbl_law : tbl "law" = some f_law := by kernel_rfl
end K61
end
section
set_option maxRecDepth 100000
set_option maxHeartbeats 1000000
set_option linter.unusedSimpArgs false
namespace K61
open Fy
open PySem (PyData)
/-! ### the well -/
def Wl (w : Int × Int × Int) (r : Sto) : Sto := .lst [.int w.1, .int w.2.1, .int w.2.2] :: r
/-- nothing leads out of what stands beside -/
def Cl (r : Sto) : Prop := r.all (O.under (r.length + 1)) = true
/-- a well that may be drawn from; n: how often at most it has been -/
def Ok (n : Int) (w : Int × Int × Int) : Prop := 0 ≤ w.1 ∧ 1 ≤ w.2.1 ∧ w.2.1 ≤ 2147483563 ∧ 0 ≤ w.2.2 ∧ w.2.2 ≤ n ∧ n ≤ 1000000000
theorem Ok.le {a b : Int} {w : Int × Int × Int} (h : Ok a w) (e : a ≤ b) (l : b ≤ 1000000000) : Ok b w := ⟨h.1, h.2.1, h.2.2.1, h.2.2.2.1, by have := h.2.2.2.2.1; omega, l⟩
theorem Wl_len (w : Int × Int × Int) (r : Sto) : (Wl w r).length = r.length + 1 := rfl
theorem Wl_app (w : Int × Int × Int) (r x : Sto) : Wl w r ++ x = Wl w (r ++ x) := rfl
theorem Wl_0 (w : Int × Int × Int) (r : Sto) : (Wl w r)[0]? = some (.lst [.int w.1, .int w.2.1, .int w.2.2]) := rfl
theorem Wl_s (w : Int × Int × Int) (r : Sto) (n : Nat) : (Wl w r)[n + 1]? = r[n]? := rfl
mutual
theorem under_le {a b : Nat} (h : a ≤ b) : ∀ d : D, D.under a d = true → D.under b d = true
  | .loc m, u => by simp only [D.under, decide_eq_true_eq] at u ⊢; omega
  | .tup xs, u => by simp only [D.under] at u ⊢; exact unders_le h xs u
  | .fro xs, u => by simp only [D.under] at u ⊢; exact unders_le h xs u
  | .non, _ => rfl
  | .bl _, _ => rfl
  | .int _, _ => rfl
  | .str _, _ => rfl
  | .ty _, _ => rfl
  | .gl _, _ => rfl
theorem unders_le {a b : Nat} (h : a ≤ b) : ∀ d : List D, D.unders a d = true → D.unders b d = true
  | [], _ => rfl
  | x :: xs, u => by
    simp only [D.unders, Bool.and_eq_true] at u ⊢
    exact ⟨under_le h x u.1, unders_le h xs u.2⟩
end
theorem ounder_le {a b : Nat} (h : a ≤ b) (o : O) (u : O.under a o = true) : O.under b o = true := by
  cases o with
  | lst xs => exact unders_le h xs u
  | dic t kvs => exact List.all_eq_true.mpr fun x hx => under_le h _ (List.all_eq_true.mp u x hx)
  | ins c fs => exact List.all_eq_true.mpr fun x hx => under_le h _ (List.all_eq_true.mp u x hx)
theorem Cl.snoc {r : Sto} {o : O} (h : Cl r) (u : O.under (r.length + 1) o = true) : Cl (r ++ [o]) := by
  unfold Cl at h ⊢
  rw [List.all_append, Bool.and_eq_true]
  refine ⟨List.all_eq_true.mpr fun x hx => ounder_le (by simp) x (List.all_eq_true.mp h x hx), ?_⟩
  simp only [List.all_cons, List.all_nil, Bool.and_true]
  exact ounder_le (by simp) o u
theorem Cl.wl {r : Sto} (h : Cl r) (w : Int × Int × Int) : (Wl w r).all (O.under (r.length + 1)) = true := by
  unfold Wl
  rw [List.all_cons, h, Bool.and_true]
  simp [O.under, D.unders, D.under]
/-- what is no list goes back alone -/
theorem tidy_d {n : Nat} {w : Int × Int × Int} {r x : Sto} (h : Cl r) (hn : n = r.length + 1) (d : D) (hd : D.under 0 d = true) : tidy n (.v d) (Wl w (r ++ x)) = .ok (.v d) (Wl w r) := by
  subst hn
  have e1 : (Wl w (r ++ x)).take (r.length + 1) = Wl w r := by unfold Wl; simp
  unfold tidy
  rw [e1, h.wl]
  cases d <;> first | (have hu := under_le (Nat.zero_le (r.length + 1)) _ hd; simp [hu]; done) | (simp [D.under] at hd)
theorem tidy_d0 {n : Nat} {w : Int × Int × Int} {r : Sto} (h : Cl r) (hn : n = r.length + 1) (d : D) (hd : D.under 0 d = true) : tidy n (.v d) (Wl w r) = .ok (.v d) (Wl w r) := by
  have := tidy_d (x := []) (w := w) h hn d hd
  rwa [List.append_nil] at this
theorem tidy_l {n : Nat} {w : Int × Int × Int} {r x : Sto} (h : Cl r) (hn : n = r.length + 1) (xs : List D) (hd : D.unders 0 xs = true) : tidy n (.l xs) (Wl w (r ++ x)) = .ok (.l xs) (Wl w r) := by
  subst hn
  have e1 : (Wl w (r ++ x)).take (r.length + 1) = Wl w r := by unfold Wl; simp
  have hu := unders_le (Nat.zero_le (r.length + 1)) _ hd
  unfold tidy
  rw [e1, h.wl]
  simp [hu]
theorem LIM_big {n : Nat} (h : n ≤ 100000) : n ≤ LIM := Nat.le_trans h (by decide)
theorem LIM_lt {n : Nat} (h : n ≤ 100000) : n < LIM := Nat.lt_of_le_of_lt h (by decide)
theorem dip (k : Nat) {n : Int} {w : Int × Int × Int} {m : Int} {r : Sto} (hw : Ok n w) (hn : n + 1 ≤ 1000000000) (hm : 0 < m) (hm2 : m < 100000) (hr : Cl r) :
    ∃ d w', 0 ≤ d ∧ d < m ∧ Ok (n + 1) w' ∧ run tbl 1000 (k+1) "_law_dip" [.loc 0, .int m] (Wl w r) = .ok (.v (.int d)) (Wl w' r) := by
  obtain ⟨a, b, c⟩ := w
  obtain ⟨h1, h2, h3, h4, h5, h6⟩ := hw
  simp only at h1 h2 h3 h4 h5
  have h9 : divOk m = true := divOk_of hm (by omega)
  have d1 := Int.emod_nonneg a (show m ≠ 0 by omega)
  have d2 := Int.emod_lt_of_pos a hm
  have ht := fun (w' : Int × Int × Int) d => tidy_d0 (w := w') hr rfl (.int d) rfl
  simp only [Wl] at ht
  by_cases ha : 0 < a
  · refine ⟨a % m, (a / m, b, c), d1, d2, ⟨Int.ediv_nonneg h1 (by omega), h2, h3, h4, by simp only; omega, hn⟩, ?_⟩
    rw [run, tbl__law_dip]
    have ht' := ht (a / m, b, c)
    simp only at ht'
    simp [f__law_dip, run, Fn.fill, evSs, evS, evE, evEs, evEo, evTs, evC, evIt, truth, cmpT, eqT, isT, ordT, ordI, idxT, dicAt, seqOf, lstOf, lstAt, L2.atI, L2.ixN, binT, biT, bindT, bindTs, Tgs.len, putAt, dicPut, itemsOf, Fl.then, Fl.res, Fl.turn, T.keep, tyOf, kinds, isSub, Wl, ha, hm, h9, ht']
  · have e0 : a = 0 := by omega
    subst e0
    have g1 : mulOk 88001 (c + 1) = true := mulOk_of (by decide) (by omega)
    have g2 : mulOk (b + 88001 * (c + 1)) 57037 = true := mulOk_of (by omega) (by decide)
    generalize hraw : ((b + 88001 * (c + 1)) * 57037 + 61) % 2147483549 = raw
    have r1 : 0 ≤ raw := by rw [← hraw]; exact Int.emod_nonneg _ (by decide)
    have r2 : raw < 2147483549 := by rw [← hraw]; exact Int.emod_lt_of_pos _ (by decide)
    have g3 : mulOk raw 41141 = true := mulOk_of (by omega) (by decide)
    have g4 : mulOk raw 2147483587 = true := mulOk_of (by omega) (by decide)
    have g5 : divOk 8209 = true := by decide
    refine ⟨((raw * 2147483587 + ((raw * 41141 + 21013) % 2147483563 + 1)) / 8209) % m, (0, (raw * 41141 + 21013) % 2147483563 + 1, c + 1), Int.emod_nonneg _ (by omega), Int.emod_lt_of_pos _ hm, ⟨by simp, by simp only; omega, by simp only; omega, by simp only; omega, by simp only; omega, hn⟩, ?_⟩
    rw [run, tbl__law_dip]
    have ht' := ht (0, (raw * 41141 + 21013) % 2147483563 + 1, c + 1)
    simp only at ht'
    simp [f__law_dip, run, Fn.fill, evSs, evS, evE, evEs, evEo, evTs, evC, evIt, truth, cmpT, eqT, isT, ordT, ordI, idxT, dicAt, seqOf, lstOf, lstAt, L2.atI, L2.ixN, binT, biT, bindT, bindTs, Tgs.len, putAt, dicPut, itemsOf, Fl.then, Fl.res, Fl.turn, T.keep, tyOf, kinds, isSub, Wl, hm, g1, g2, g3, g4, g5, hraw, ht']
/-- one of a list that stands in the store -/
theorem one (k : Nat) {n : Int} {w : Int × Int × Int} {j : Nat} {xs : List D} {r : Sto} (hw : Ok n w) (hn : n + 1 ≤ 1000000000) (hr : Cl r) (hj : r[j]? = some (.lst xs)) (h0 : xs ≠ []) (hl : xs.length < 100000) (hx : ∀ x ∈ xs, D.under 0 x = true ∨ ∃ m, x = .loc m ∧ m ≤ r.length) :
    ∃ x w', x ∈ xs ∧ Ok (n + 1) w' ∧ run tbl 1000 (k+2) "_law_one" [.loc 0, .loc (j + 1)] (Wl w r) = .ok (.v x) (Wl w' r) := by
  have hpos : 0 < xs.length := List.length_pos_iff.mpr h0
  obtain ⟨d, w', d1, d2, o, e⟩ := dip k (m := (xs.length : Int)) hw hn (by omega) (by omega) hr
  obtain ⟨m, rfl⟩ := Int.eq_ofNat_of_zero_le d1
  have hm : m < xs.length := by omega
  have ex : xs[m]? = some xs[m] := List.getElem?_eq_getElem hm
  have ea : L2.atI xs (m : Int) = some xs[m] := L2.atI_nat ex
  refine ⟨xs[m], w', List.getElem_mem hm, o, ?_⟩
  have ht : tidy (r.length + 1) (.v xs[m]) (Wl w' r) = .ok (.v xs[m]) (Wl w' r) := by
    rcases hx xs[m] (List.getElem_mem hm) with h | ⟨q, h, hq⟩
    · exact tidy_d0 hr rfl _ h
    · have e1 : (Wl w' r).take (r.length + 1) = Wl w' r := by unfold Wl; simp
      unfold tidy
      rw [e1, hr.wl, h]
      simp only [if_true]
      rw [if_pos (by omega)]
  rw [run, tbl__law_one]
  simp only [f__law_one]
  have hl1 : lstAt (j + 1) (Wl w r) = some xs := by simp [lstAt, Wl_s, hj]
  have hl2 : lstAt (j + 1) (Wl w' r) = some xs := by simp [lstAt, Wl_s, hj]
  simp [Fn.fill, evSs, evS, evE, evEs, evTs, biT, seqOf, lstOf, idxT, dicAt, hl1, hl2, e, Wl_s, hj, ea, Fl.then, Fl.res, Wl_len, ht]
end K61
end
section
set_option maxRecDepth 100000
set_option maxHeartbeats 1000000
set_option linter.unusedSimpArgs false
namespace K61
open Fy
open PySem (PyData)
/-! ### values: numbers -/
mutual
def vd (s : Sto) : D → Bool
  | .loc n => (lstAt n s).isSome
  | .tup xs => vds s xs
  | .fro _ => false
  | .ty _ => false
  | .gl _ => false
  | _ => true
def vds (s : Sto) : List D → Bool
  | [] => true
  | x :: xs => vd s x && vds s xs
end
theorem vds_mem {s : Sto} : ∀ {xs : List D}, vds s xs = true → ∀ x ∈ xs, vd s x = true
  | [], _, x, h => by cases h
  | y :: ys, u, x, h => by
    simp only [vds, Bool.and_eq_true] at u
    rcases List.mem_cons.mp h with rfl | h
    · exact u.1
    · exact vds_mem u.2 x h
theorem vds_of {s : Sto} : ∀ {xs : List D}, (∀ x ∈ xs, vd s x = true) → vds s xs = true
  | [], _ => rfl
  | y :: ys, h => by
    simp only [vds, Bool.and_eq_true]
    exact ⟨h y (by simp), vds_of fun x hx => h x (by simp [hx])⟩
def isInt : D → Bool
  | .int _ => true
  | _ => false
theorem is_integer (k : Nat) {w : Int × Int × Int} {r : Sto} (hr : Cl r) {d : D} (hv : vd (Wl w r) d = true) : run tbl 1000 (k+1) "is_integer" [d] (Wl w r) = .ok (.v (.bl (isInt d))) (Wl w r) := by
  have ht := fun b => tidy_d0 (w := w) hr rfl (.bl b) rfl
  rw [run, tbl_is_integer]
  cases d with
  | loc n =>
    simp only [vd, Option.isSome_iff_exists] at hv
    obtain ⟨xs, e⟩ := hv
    simp [f_is_integer, Fn.fill, evSs, evS, evE, evTs, biT, tyOf, e, kinds, isSub, truth, Fl.then, Fl.res, Wl_len, ht, isInt]
  | fro _ => simp [vd] at hv
  | ty _ => simp [vd] at hv
  | gl _ => simp [vd] at hv
  | _ => simp [f_is_integer, Fn.fill, evSs, evS, evE, evTs, biT, tyOf, kinds, isSub, truth, Fl.then, Fl.res, Wl_len, ht, isInt]
def num : Option Int → D → Bool
  | none, .int i => decide (0 ≤ i)
  | some j, .int i => decide (0 ≤ i) && decide (i ≤ j)
  | _, _ => false
theorem is_number1 (k : Nat) {w : Int × Int × Int} {r : Sto} (hr : Cl r) {d : D} (hv : vd (Wl w r) d = true) : run tbl 1000 (k+2) "is_number" [d] (Wl w r) = .ok (.v (.bl (num none d))) (Wl w r) := by
  have ht := fun b => tidy_d0 (w := w) hr rfl (.bl b) rfl
  have h1 := is_integer k hr hv
  rw [run, tbl_is_number]
  cases d with
  | int i =>
    by_cases hi : 0 ≤ i <;> simp [f_is_number, Fn.fill, evSs, evS, evE, evEs, h1, isInt, truth, cmpT, ordT, ordI, isT, Fl.then, Fl.res, Wl_len, ht, num, hi]
  | _ => simp [f_is_number, Fn.fill, evSs, evS, evE, evEs, h1, isInt, truth, Fl.then, Fl.res, Wl_len, ht, num]
theorem is_number2 (k : Nat) {w : Int × Int × Int} {r : Sto} (hr : Cl r) {d : D} {j : Int} (hv : vd (Wl w r) d = true) : run tbl 1000 (k+2) "is_number" [d, .int j] (Wl w r) = .ok (.v (.bl (num (some j) d))) (Wl w r) := by
  have ht := fun b => tidy_d0 (w := w) hr rfl (.bl b) rfl
  have h1 := is_integer k hr hv
  rw [run, tbl_is_number]
  cases d with
  | int i =>
    by_cases hi : 0 ≤ i <;> by_cases hj : i ≤ j <;> simp [f_is_number, Fn.fill, evSs, evS, evE, evEs, h1, isInt, truth, cmpT, ordT, ordI, isT, Fl.then, Fl.res, Wl_len, ht, num, hi, hj]
  | _ => simp [f_is_number, Fn.fill, evSs, evS, evE, evEs, h1, isInt, truth, Fl.then, Fl.res, Wl_len, ht, num]
def siz (j : Int) : D → Bool
  | .int i => decide (0 < i) && decide (i ≤ j)
  | _ => false
theorem is_size (k : Nat) {w : Int × Int × Int} {r : Sto} (hr : Cl r) {d : D} {j : Int} (hv : vd (Wl w r) d = true) : run tbl 1000 (k+3) "is_size" [d, .int j] (Wl w r) = .ok (.v (.bl (siz j d))) (Wl w r) := by
  have ht := fun b => tidy_d0 (w := w) hr rfl (.bl b) rfl
  have h1 := is_number2 k (j := j) hr hv
  rw [run, tbl_is_size]
  cases d with
  | int i =>
    by_cases hi : 0 < i <;> by_cases hj : i ≤ j
    all_goals
      by_cases h0 : 0 ≤ i
      all_goals first
        | (exfalso; omega)
        | simp [f_is_size, Fn.fill, evSs, evS, evE, evEs, h1, truth, cmpT, ordT, ordI, isT, Fl.then, Fl.res, Wl_len, ht, num, siz, hi, hj, h0]
  | _ => simp [f_is_size, Fn.fill, evSs, evS, evE, evEs, h1, truth, Fl.then, Fl.res, Wl_len, ht, num, siz]
/-! ### lots -/
def lotAt (m n : Nat) : List Int := List.map (fun i : Nat => (i : Int)) ((List.range m).filter fun i => decide (n / 2 ^ i % 2 = 1))
def lotD (l : List Int) : D := .tup (l.map .int)
def pw : List D := [.int 1, .int 2, .int 4, .int 8, .int 16, .int 32]
theorem under_is (n : Nat) : ∀ js : List Int, D.unders n (js.map .int) = true
  | [] => rfl
  | p :: ps => by simp [D.unders, D.under, under_is n ps]
theorem rng_of {a b : Nat} (h2 : b ≤ 100000) (h1 : a ≤ b) : rangeD (a : Int) (b : Int) = some ⟨(List.range (b - a)).map fun i => D.int ((a : Int) + (i : Nat)), []⟩ := by
  unfold rangeD
  rw [if_pos (by omega)]
  have : ((b : Int) - (a : Int)).toNat = b - a := by omega
  rw [this]
theorem rng0 {b : Nat} (h2 : b ≤ 100000) : rangeD 0 (b : Int) = some ⟨(List.range b).map fun i => D.int (i : Nat), []⟩ := by
  have := rng_of (a := 0) h2 (Nat.zero_le _)
  simpa using this
/-- a comprehension with a test, that draws nothing -/
theorem lc_pure {α : Type} {F : D → Sto → R (Option D)} {A : α → D} {G : α → Option D} {s : Sto} : ∀ (ys : List α) (acc : List D), (∀ y ∈ ys, F (A y) s = .ok (G y) s) → acc.length + ys.length ≤ LIM → lcLoop F [] (ys.map A) acc s = .ok (.l (acc ++ ys.filterMap G)) s
  | [], acc, _, _ => by simp [lcLoop, stands]
  | y :: ys, acc, h, hl => by
    simp only [List.length_cons] at hl
    have e1 := h y (by simp)
    have hlt : acc.length < LIM := by omega
    cases hg : G y with
    | none =>
      have e2 := lc_pure ys acc (fun z hz => h z (by simp [hz])) (by omega)
      simp [lcLoop, stands, e1, hg, e2]
    | some d =>
      have e2 := lc_pure ys (acc ++ [d]) (fun z hz => h z (by simp [hz])) (by simp; omega)
      simp [lcLoop, stands, e1, hg, hlt, e2]
theorem pw_at {i : Nat} (hi : i ≤ 5) : L2.atI pw (i : Int) = some (.int ((2 ^ i : Nat) : Int)) := by
  have : i = 0 ∨ i = 1 ∨ i = 2 ∨ i = 3 ∨ i = 4 ∨ i = 5 := by omega
  rcases this with rfl | rfl | rfl | rfl | rfl | rfl <;> rfl
theorem pw_div {i : Nat} (hi : i ≤ 5) : divOk ((2 ^ i : Nat) : Int) = true := by
  have : i = 0 ∨ i = 1 ∨ i = 2 ∨ i = 3 ∨ i = 4 ∨ i = 5 := by omega
  rcases this with rfl | rfl | rfl | rfl | rfl | rfl <;> decide
theorem fm_filter {α β γ : Type} (p : α → Bool) (f : α → β) (g : β → γ) (l : List α) : l.filterMap (fun x => if p x = true then some (g (f x)) else none) = ((l.filter p).map f).map g := by
  induction l with
  | nil => rfl
  | cons x xs ih =>
    cases h : p x <;> simp [h, ih]
def lotE : E := .cmp .eq (.bin .mod (.bin .fdiv (.var 1) (.idx (.con "POWERS" (.tup pw)) (.var 2))) (.int 2)) (.int 1)
theorem lot_turn (k : Nat) (s : Sto) {m n i : Nat} (hi' : i ≤ 5) : lcF (.nm 2) [2] [some (.int (m : Int)), some (.int (n : Int)), none] (fun ρ s => (evE (run tbl 1000 k) lotE ρ s).bind fun t s => ofO (truth t s) s) (evE (run tbl 1000 k) (.var 2)) (.int (i : Int)) s = .ok (if (decide (n / 2 ^ i % 2 = 1)) = true then some (.int (i : Int)) else none) s := by
  have e := pw_at hi'
  have e2 := pw_div hi'
  have e3 : (n : Int) / ((2 ^ i : Nat) : Int) % 2 = ((n / 2 ^ i % 2 : Nat) : Int) := by simp
  generalize ((2 ^ i : Nat) : Int) = q at e e2 e3
  have e5 : (n : Int) / q % 2 = 1 ↔ n / 2 ^ i % 2 = 1 := by rw [e3]; omega
  by_cases hc : n / 2 ^ i % 2 = 1
  · have e6 := e5.mpr hc
    simp [lotE, lcF, bindT, wipeE, evE, truth, cmpT, eqT, idxT, dicAt, seqOf, e, binT, e2, hc, e6]
  · have e6 : ¬ (n : Int) / q % 2 = 1 := fun z => hc (e5.mp z)
    simp [lotE, lcF, bindT, wipeE, evE, truth, cmpT, eqT, idxT, dicAt, seqOf, e, binT, e2, hc, e6]
theorem range_ok {m : Nat} (hm : m ≤ 5) : ([] : List D).length + (List.range m).length ≤ LIM := by
  rw [List.length_nil, List.length_range, Nat.zero_add]
  exact LIM_big (by omega)
theorem rng5 {m : Nat} (hm : m ≤ 5) : rangeD 0 (m : Int) = some ⟨(List.range m).map fun i => D.int (i : Nat), []⟩ := rng0 (by omega)
theorem lot_lc (k : Nat) {m n : Nat} (hm : m ≤ 5) (s : Sto) : evE (run tbl 1000 k) (.lc [("i", 2)] (.nm 2) (.rng (.cons (.var 0) .nil)) (.some lotE) (.var 2)) [some (.int (m : Int)), some (.int (n : Int)), none] s = .ok (.l ((lotAt m n).map .int)) s := by
  have h := lc_pure (A := fun i : Nat => D.int (i : Int)) (s := s) (List.range m) [] (fun i hi => lot_turn (m := m) (n := n) k s (Nat.le_trans (Nat.le_of_lt (List.mem_range.mp hi)) hm)) (range_ok hm)
  rw [fm_filter (fun i => decide (n / 2 ^ i % 2 = 1)) (fun i : Nat => (i : Int)) D.int, List.nil_append] at h
  have e9 : List.map (fun i : Nat => (i : Int)) ((List.range m).filter fun i => decide (n / 2 ^ i % 2 = 1)) = lotAt m n := rfl
  rw [e9] at h
  have r5 := rng5 hm
  generalize (m : Int) = j at h r5 ⊢
  generalize (n : Int) = j2 at h ⊢
  have hi : evIt (run tbl 1000 k) (.rng (.cons (.var 0) .nil)) [some (.int j), some (.int j2), none] s = .ok ⟨(List.range m).map fun i => D.int (i : Nat), []⟩ s := by
    simp only [evIt, evEs, evE, List.getElem?_cons_zero, R.bind_ok, keepR_v, rangeOf, r5, ofO_some]
  rw [evE, hi]
  exact h
theorem lot_at (k : Nat) {w : Int × Int × Int} {r : Sto} (hr : Cl r) {m n : Nat} (hm : m ≤ 5) : run tbl 1000 (k+1) "lot_at" [.int (m : Int), .int (n : Int)] (Wl w r) = .ok (.v (lotD (lotAt m n))) (Wl w r) := by
  have h := lot_lc k (n := n) hm (Wl w r)
  have ht := tidy_d0 (w := w) hr rfl (lotD (lotAt m n)) (by simp only [lotD, D.under, under_is])
  have e8 : f_lot_at = ⟨2, 3, [], .cons (.ret (.bi .tuple (.cons (.lc [("i", 2)] (.nm 2) (.rng (.cons (.var 0) .nil)) (.some lotE) (.var 2)) .nil))) .nil⟩ := rfl
  unfold lotD at ht ⊢
  generalize (lotAt m n).map D.int = LL at h ht ⊢
  rw [run, tbl_lot_at]
  simp only [e8]
  generalize E.lc _ _ _ _ _ = ent at h ⊢
  generalize (m : Int) = j at h ⊢
  generalize (n : Int) = j2 at h ⊢
  simp [Fn.fill, evSs, evS, evE, evTs, h, biT, seqOf, lstOf, Fl.then, Fl.res, Wl_len]
  exact ht
end K61
end
section
set_option maxRecDepth 100000
set_option maxHeartbeats 1000000
set_option linter.unusedSimpArgs false
namespace K61
open Fy
open PySem (PyData)
def lots (m : Nat) : List (List Int) := (List.range (2 ^ m - 1)).map fun j => lotAt m (j + 1)
def lotsD (m : Nat) : List D := (lots m).map lotD
theorem under_lots : ∀ ls : List (List Int), D.unders 0 (ls.map lotD) = true
  | [] => rfl
  | l :: ls => by simp [D.unders, D.under, lotD, under_is, under_lots ls]
theorem lots_turn (k : Nat) {w : Int × Int × Int} {r : Sto} (hr : Cl r) {m i : Nat} (hm : m ≤ 5) : lcF (.nm 1) [1] [some (.int (m : Int)), none] (fun _ s => .ok true s) (evE (run tbl 1000 (k+1)) (.call "lot_at" (.cons (.var 0) (.cons (.var 1) .nil)))) (.int (((1 : Nat) : Int) + (i : Int))) (Wl w r) = .ok (some (lotD (lotAt m (i + 1)))) (Wl w r) := by
  have e := lot_at k (w := w) (n := i + 1) hr hm
  have e1 : ((1 : Nat) : Int) + (i : Int) = ((i + 1 : Nat) : Int) := by omega
  rw [e1]
  generalize (m : Int) = j at e ⊢
  generalize ((i + 1 : Nat) : Int) = j2 at e ⊢
  simp [lcF, bindT, wipeE, evE, evEs, e]
theorem two_pow {m : Nat} (hm : m ≤ 5) : 2 ^ m ≤ 32 := by
  have := Nat.pow_le_pow_right (show 0 < 2 by decide) hm
  simpa using this
theorem lots_lc (k : Nat) {w : Int × Int × Int} {r : Sto} (hr : Cl r) {m : Nat} (hm : m ≤ 5) : evE (run tbl 1000 (k+1)) (.lc [("number", 1)] (.nm 1) (.rng (.cons (.int 1) (.cons (.idx (.con "POWERS" (.tup pw)) (.var 0)) .nil))) .none (.call "lot_at" (.cons (.var 0) (.cons (.var 1) .nil)))) [some (.int (m : Int)), none] (Wl w r) = .ok (.l (lotsD m)) (Wl w r) := by
  have hp := two_pow hm
  have hp1 : 1 ≤ 2 ^ m := Nat.one_le_two_pow
  have hl : ([] : List D).length + (List.range (2 ^ m - 1)).length ≤ LIM := by
    rw [List.length_nil, List.length_range, Nat.zero_add]
    exact LIM_big (by omega)
  have h := lc_pure (A := fun i : Nat => D.int (((1 : Nat) : Int) + (i : Int))) (G := fun i => some (lotD (lotAt m (i + 1)))) (s := Wl w r) (List.range (2 ^ m - 1)) [] (fun i _ => lots_turn k hr hm) hl
  have e2 : L2.atI pw (m : Int) = some (.int ((2 ^ m : Nat) : Int)) := pw_at hm
  have e3 := rng_of (a := 1) (b := 2 ^ m) (by omega) hp1
  have e4 : ([] ++ (List.range (2 ^ m - 1)).filterMap fun i => some (lotD (lotAt m (i + 1)))) = lotsD m := by
    simp [lotsD, lots, List.filterMap_eq_map', Function.comp_def]
  rw [e4] at h
  generalize ((2 ^ m : Nat) : Int) = q at e2 e3
  have e3' : rangeD 1 q = some ⟨(List.range (2 ^ m - 1)).map fun i : Nat => D.int (((1 : Nat) : Int) + (i : Int)), []⟩ := e3
  have hi : evIt (run tbl 1000 (k+1)) (.rng (.cons (.int 1) (.cons (.idx (.con "POWERS" (.tup pw)) (.var 0)) .nil))) [some (.int (m : Int)), none] (Wl w r) = .ok ⟨(List.range (2 ^ m - 1)).map fun i : Nat => D.int (((1 : Nat) : Int) + (i : Int)), []⟩ (Wl w r) := by
    simp [evIt, evEs, evE, rangeOf, idxT, dicAt, seqOf, e2, e3']
  rw [evE, hi]
  exact h
theorem siz_of {m : Nat} (h1 : 1 ≤ m) (hm : m ≤ 5) : siz 5 (.int (m : Int)) = true := by
  simp only [siz, Bool.and_eq_true, decide_eq_true_eq]
  omega
theorem lots_of (k : Nat) {w : Int × Int × Int} {r : Sto} (hr : Cl r) {m : Nat} (h1 : 1 ≤ m) (hm : m ≤ 5) : run tbl 1000 (k+4) "lots_of" [.int (m : Int)] (Wl w r) = .ok (.v (.tup (lotsD m))) (Wl w r) := by
  have hs := is_size k (w := w) (d := .int (m : Int)) (j := 5) hr rfl
  rw [siz_of h1 hm] at hs
  have h := lots_lc (k+2) (w := w) hr hm
  have ht := tidy_d0 (w := w) hr rfl (.tup (lotsD m)) (by simp only [lotsD, D.under, under_lots])
  have e8 : f_lots_of = ⟨1, 2, [], .cons (.ite (.not1 (.call "is_size" (.cons (.var 0) (.cons (.con "MOST_MANY" (.int 5)) .nil)))) (.cons (.raise "Refused" (.cons (.str "many") .nil)) .nil) .nil) (.cons (.ret (.bi .tuple (.cons (.lc [("number", 1)] (.nm 1) (.rng (.cons (.int 1) (.cons (.idx (.con "POWERS" (.tup pw)) (.var 0)) .nil))) .none (.call "lot_at" (.cons (.var 0) (.cons (.var 1) .nil)))) .nil))) .nil)⟩ := rfl
  generalize lotsD m = LL at h ht ⊢
  rw [run, tbl_lots_of]
  simp only [e8]
  generalize E.lc _ _ _ _ _ = ent at h ⊢
  generalize (m : Int) = j at h hs ⊢
  simp [Fn.fill, evSs, evS, evE, evEs, evTs, hs, truth, h, biT, seqOf, lstOf, Fl.then, Fl.res, Wl_len]
  exact ht
theorem lots_no (k : Nat) {w : Int × Int × Int} {r : Sto} (hr : Cl r) {d : D} (hd : vd (Wl w r) d = true) (h0 : siz 5 d = false) : run tbl 1000 (k+4) "lots_of" [d] (Wl w r) = .ex ⟨"Refused", .str "many"⟩ (Wl w r) := by
  have hs := is_size k (w := w) (j := 5) hr hd
  have e1 : (Wl w r).take (r.length + 1) = Wl w r := by unfold Wl; simp
  have e2 := hr.wl w
  rw [run, tbl_lots_of]
  simp only [f_lots_of]
  simp [Fn.fill, evSs, evS, evE, evEs, hs, h0, truth, Fl.then, Fl.res, Wl_len, e1, e2, D.under]
end K61
end
section
set_option maxRecDepth 100000
set_option maxHeartbeats 1000000
set_option linter.unusedSimpArgs false
namespace K61
open Fy
open PySem (PyData)
theorem seq_nx {cf : CallF} {wf : Nat} {st : S} {r : Ss} {ρ ρ' : Env} {s s' : Sto} (h : evS cf wf st ρ s = .nx ρ' s') : evSs cf wf (.cons st r) ρ s = evSs cf wf r ρ' s' := by
  simp only [evSs, h, Fl.then]
theorem seq_rt {cf : CallF} {wf : Nat} {st : S} {r : Ss} {ρ : Env} {s s' : Sto} {t : T} (h : evS cf wf st ρ s = .rt t s') : evSs cf wf (.cons st r) ρ s = .rt t s' := by
  simp only [evSs, h, Fl.then]
theorem for_then {cf : CallF} {wf : Nat} {t : Tg} {it : It} {b r : Ss} {ρ : Env} {s s' : Sto} {I : Items} (h : evIt cf it ρ s = .ok I s') :
    evSs cf wf (.cons (.for_ t it b) r) ρ s = (forLoop (forF t (evSs cf wf b)) I.src I.xs ρ s').then fun ρ s => evSs cf wf r ρ s := by
  simp only [evSs, evS, h, R.fl_ok]
def nth : Ss → Nat → S
  | .cons s _, 0 => s
  | .cons _ r, n + 1 => nth r n
  | .nil, _ => .pass
def forB : S → Ss
  | .for_ _ _ b => b
  | .while_ _ b => b
  | _ => .nil
/-! ### is_memory -/
def pairB (m : Nat) (n : Int) (i : Nat) : D → Bool
  | .tup [a, b] => num none a && (num (some (n - 1)) b && (match a with | .int x => decide (x ∈ lotAt m (i + 1)) | _ => false))
  | _ => false
def memB (m : Nat) (n : Int) : D → Bool
  | .tup ps => decide (ps.length = 2 ^ m - 1) && ps.zipIdx.all fun p => pairB m n p.2 p.1
  | _ => false
def memBody : Ss := forB (nth f_is_memory.body 1)
theorem in_ints (x : Int) (l : List Int) (s : Sto) : inT (.v (.int x)) (.v (lotD l)) s = some (decide (x ∈ l)) := by
  have h1 : (l.map D.int).all flat = true := by simp [flat]
  have h2 : ((l.map D.int).any fun z => eqF z (.int x)) = decide (x ∈ l) := by
    induction l with
    | nil => simp
    | cons y l ih =>
      have ih' := ih (by simp [flat])
      have e1 : eqF (.int y) (.int x) = (y == x) := rfl
      rw [List.map_cons, List.any_cons, ih', e1]
      by_cases h : y = x
      · subst h; simp
      · have h' : ¬ x = y := fun e => h e.symm
        have h2 : (y == x) = false := beq_eq_false_iff_ne.mpr h
        rw [h2, Bool.false_or]
        exact decide_eq_decide.mpr (by simp [h'])
  simp only [inT, dicAt, lotD, seqOf, Option.bind_some, flat, h1, h2, Bool.and_self, if_true]
theorem mem_turn (k : Nat) {w : Int × Int × Int} {r : Sto} (hr : Cl r) {m : Nat} (hm : m ≤ 5) (n : Int) (i : Nat) (p : D) (hp : vd (Wl w r) p = true) (x2 : D) (x3 x4 : Option D) :
    forF (.tp (.cons (.nm 3) (.cons (.nm 4) .nil))) (evSs (run tbl 1000 (k+3)) 1000 memBody) (.tup [.int (i : Int), p]) [some (.int (m : Int)), some (.int n), some x2, x3, x4] (Wl w r) =
      if pairB m n i p = true then .nx [some (.int (m : Int)), some (.int n), some x2, some (.int (i : Int)), some p] (Wl w r) else .rt (.v (.bl false)) (Wl w r) := by
  have hl := lot_at (k+2) (w := w) (n := i + 1) hr hm
  have e1 : ((i + 1 : Nat) : Int) = (i : Int) + 1 := by omega
  rw [e1] at hl
  have bt : bindT (.tp (.cons (.nm 3) (.cons (.nm 4) .nil))) (.tup [.int (i : Int), p]) [some (.int (m : Int)), some (.int n), some x2, x3, x4] = some [some (.int (m : Int)), some (.int n), some x2, some (.int (i : Int)), some p] := rfl
  rw [forF_ap, bt]
  simp only [memBody, f_is_memory, nth, forB]
  generalize (m : Int) = mm at hl ⊢
  generalize (i : Int) = ii at hl ⊢
  match p, hp with
  | .tup [a, b], hp =>
    simp only [vd, vds, Bool.and_eq_true, and_true] at hp
    have ha := is_number1 (k+1) hr hp.1
    have hb := is_number2 (k+1) (j := n - 1) hr hp.2
    have i0 : L2.atI [a, b] 0 = some a := rfl
    have i1 : L2.atI [a, b] 1 = some b := rfl
    cases h1 : num none a with
    | false =>
      rw [h1] at ha
      simp [pairB, h1, evSs, evS, evE, evEs, evTs, biT, tyOf, kinds, isSub, truth, cmpT, eqT, seqOf, idxT, dicAt, i0, i1, ha, hb, Fl.then]
    | true =>
      rw [h1] at ha
      cases h2 : num (some (n - 1)) b with
      | false =>
        rw [h2] at hb
        simp [pairB, h1, h2, evSs, evS, evE, evEs, evTs, biT, tyOf, kinds, isSub, truth, cmpT, eqT, seqOf, idxT, dicAt, i0, i1, ha, hb, binT, Fl.then]
      | true =>
        rw [h2] at hb
        match a, h1 with
        | .int x, h1 =>
          have hin := in_ints x (lotAt m (i + 1)) (Wl w r)
          generalize lotD (lotAt m (i + 1)) = LL at hl hin
          by_cases h3 : x ∈ lotAt m (i + 1)
          · simp only [h3, decide_true] at hin
            simp [pairB, h1, h2, h3, evSs, evS, evE, evEs, evTs, biT, tyOf, kinds, isSub, truth, cmpT, eqT, seqOf, idxT, dicAt, i0, i1, ha, hb, binT, hl, hin, Fl.then]
          · simp only [h3, decide_false] at hin
            simp [pairB, h1, h2, h3, evSs, evS, evE, evEs, evTs, biT, tyOf, kinds, isSub, truth, cmpT, eqT, seqOf, idxT, dicAt, i0, i1, ha, hb, binT, hl, hin, Fl.then]
  | .tup [], _ => simp [pairB, evSs, evS, evE, evTs, biT, tyOf, kinds, isSub, truth, cmpT, eqT, seqOf, Fl.then]
  | .tup [_], _ => simp [pairB, evSs, evS, evE, evTs, biT, tyOf, kinds, isSub, truth, cmpT, eqT, seqOf, Fl.then]
  | .tup (a :: b :: c :: q), _ =>
    have hne : ¬ ((q.length : Int) + 1 + 1 + 1 = 2) := by omega
    simp [pairB, evSs, evS, evE, evTs, biT, tyOf, kinds, isSub, truth, cmpT, eqT, seqOf, Fl.then, hne]
  | .loc j, hp =>
    simp only [vd, Option.isSome_iff_exists] at hp
    obtain ⟨xs, e⟩ := hp
    simp [pairB, evSs, evS, evE, evTs, biT, tyOf, e, kinds, isSub, truth, Fl.then]
  | .non, _ => simp [pairB, evSs, evS, evE, evTs, biT, tyOf, kinds, isSub, truth, Fl.then]
  | .bl _, _ => simp [pairB, evSs, evS, evE, evTs, biT, tyOf, kinds, isSub, truth, Fl.then]
  | .int _, _ => simp [pairB, evSs, evS, evE, evTs, biT, tyOf, kinds, isSub, truth, Fl.then]
  | .str _, _ => simp [pairB, evSs, evS, evE, evTs, biT, tyOf, kinds, isSub, truth, Fl.then]
  | .fro _, hp => simp [vd] at hp
  | .ty _, hp => simp [vd] at hp
  | .gl _, hp => simp [vd] at hp
theorem mem_loop {F : D → Env → Sto → Fl} {s : Sto} {pre : Env} {B : Nat → D → Bool} (hF : ∀ (i : Nat) (p : D) x3 x4, vd s p = true → F (.tup [.int (i : Int), p]) (pre ++ [x3, x4]) s = if B i p = true then .nx (pre ++ [some (.int (i : Int)), some p]) s else .rt (.v (.bl false)) s) :
    ∀ (ps : List D) (i : Nat) x3 x4, vds s ps = true → if ((ps.zipIdx i).all fun p => B p.2 p.1) = true then ∃ y3 y4, forLoop F [] ((ps.zipIdx i).map fun p => .tup [.int (p.2 : Nat), p.1]) (pre ++ [x3, x4]) s = .nx (pre ++ [y3, y4]) s
      else forLoop F [] ((ps.zipIdx i).map fun p => .tup [.int (p.2 : Nat), p.1]) (pre ++ [x3, x4]) s = .rt (.v (.bl false)) s
  | [], i, x3, x4, _ => by simp [forLoop, stands]
  | p :: ps, i, x3, x4, hv => by
    simp only [vds, Bool.and_eq_true] at hv
    have e := hF i p x3 x4 hv.1
    simp only [List.zipIdx_cons, List.all_cons, List.map_cons, forLoop, stands, List.all_nil, if_true, e, Bool.and_eq_true]
    cases hb : B i p with
    | false => simp [Fl.turn]
    | true =>
      have ih := mem_loop hF ps (i + 1) (some (.int (i : Int))) (some p) hv.2
      simp only [if_true, Fl.turn, true_and]
      exact ih
theorem is_memory (k : Nat) {w : Int × Int × Int} {r : Sto} (hr : Cl r) {m : Nat} (hm : m ≤ 5) (n : Int) (d : D) (hd : vd (Wl w r) d = true) : run tbl 1000 (k+4) "is_memory" [.int (m : Int), .int n, d] (Wl w r) = .ok (.v (.bl (memB m n d))) (Wl w r) := by
  have ht := fun b => tidy_d0 (w := w) hr rfl (.bl b) rfl
  have hp : L2.atI pw (m : Int) = some (.int ((2 ^ m : Nat) : Int)) := pw_at hm
  have h1 : 1 ≤ 2 ^ m := Nat.one_le_two_pow
  have hturn := fun i p x3 x4 hp => mem_turn k (w := w) hr hm n i p hp d x3 x4
  unfold memBody at hturn
  rw [run, tbl_is_memory]
  simp only [f_is_memory, nth, forB] at hturn ⊢
  unfold pw at hp
  match d, hd with
  | .tup ps, hd =>
    simp only [vd] at hd
    have loop := mem_loop (pre := [some (.int (m : Int)), some (.int n), some (.tup ps)]) (fun i p x3 x4 hp => hturn i p x3 x4 hp) ps 0 none none hd
    generalize (m : Int) = mm at hp hturn loop ⊢
    generalize hq : ((2 ^ m : Nat) : Int) = q at hp
    by_cases hl : ps.length = 2 ^ m - 1
    · have hl' : (ps.length : Int) = q - 1 := by omega
      simp only [Fn.fill, List.append_nil, List.drop_nil, List.length_cons, List.length_nil, Nat.zero_add, if_true, List.map_cons, List.map_nil, Nat.reduceSub, Nat.reduceAdd, List.replicate, List.cons_append, List.nil_append]
      rw [seq_nx (ρ' := [some (.int mm), some (.int n), some (.tup ps), none, none]) (s' := Wl w r) (by simp [evS, evSs, evE, evTs, biT, tyOf, kinds, isSub, truth, cmpT, eqT, seqOf, idxT, dicAt, hp, binT, hl'])]
      rw [for_then (I := ⟨(ps.zipIdx 0).map fun p => .tup [.int (p.2 : Nat), p.1], []⟩) (s' := Wl w r) (by simp [evIt, evE, enumOf, itemsOf])]
      simp only [List.cons_append, List.nil_append] at loop
      split at loop
      · rename_i ha
        obtain ⟨y3, y4, e⟩ := loop
        simp only [e, Fl.then]
        have ha' : (ps.zipIdx.all fun p => pairB m n p.2 p.1) = true := ha
        simp [evSs, evS, evE, Fl.then, Fl.res, Wl_len, ht, memB, hl, ha']
      · rename_i ha
        simp only [loop, Fl.then]
        have ha' : (ps.zipIdx.all fun p => pairB m n p.2 p.1) = false := by simpa using ha
        simp [Fl.res, Wl_len, ht, memB, hl, ha']
    · have hl' : ¬ (ps.length : Int) = q - 1 := by omega
      have hb : memB m n (.tup ps) = false := by simp [memB, hl]
      rw [hb]
      simp [Fn.fill, evSs, evS, evE, evTs, biT, tyOf, kinds, isSub, truth, cmpT, eqT, seqOf, idxT, dicAt, hp, binT, hl', Fl.then, Fl.res, Wl_len, ht]
  | .loc j, hp =>
    simp only [vd, Option.isSome_iff_exists] at hp
    obtain ⟨xs, e⟩ := hp
    simp [memB, Fn.fill, evSs, evS, evE, evTs, biT, tyOf, e, kinds, isSub, truth, Fl.then, Fl.res, Wl_len, ht]
  | .non, _ => simp [memB, Fn.fill, evSs, evS, evE, evTs, biT, tyOf, kinds, isSub, truth, Fl.then, Fl.res, Wl_len, ht]
  | .bl _, _ => simp [memB, Fn.fill, evSs, evS, evE, evTs, biT, tyOf, kinds, isSub, truth, Fl.then, Fl.res, Wl_len, ht]
  | .int _, _ => simp [memB, Fn.fill, evSs, evS, evE, evTs, biT, tyOf, kinds, isSub, truth, Fl.then, Fl.res, Wl_len, ht]
  | .str _, _ => simp [memB, Fn.fill, evSs, evS, evE, evTs, biT, tyOf, kinds, isSub, truth, Fl.then, Fl.res, Wl_len, ht]
  | .fro _, hp => simp [vd] at hp
  | .ty _, hp => simp [vd] at hp
  | .gl _, hp => simp [vd] at hp
/-! ### is_machine -/
def machB (m : Nat) : D → Bool
  | .tup [b, .tup rows] => siz 5000 (.int (rows.length : Nat)) && (num (some ((rows.length : Nat) - 1)) b && rows.all fun row => memB m (rows.length : Nat) row)
  | _ => false
theorem rows_lc (k : Nat) {w : Int × Int × Int} {r : Sto} (hr : Cl r) {m : Nat} (hm : m ≤ 5) (b : D) (rows : List D) (hv : vds (Wl w r) rows = true) (hl : rows.length ≤ 100000) :
    evE (run tbl 1000 (k+4)) (.lc [("row", 2)] (.nm 2) (.seq (.idx (.var 1) (.int 1))) .none (.call "is_memory" (.cons (.var 0) (.cons (.bi .len (.cons (.idx (.var 1) (.int 1)) .nil)) (.cons (.var 2) .nil))))) [some (.int (m : Int)), some (.tup [b, .tup rows]), none] (Wl w r) =
      .ok (.l (rows.map fun row => .bl (memB m (rows.length : Nat) row))) (Wl w r) := by
  have i1 : L2.atI [b, .tup rows] 1 = some (.tup rows) := rfl
  have hlen : ([] : List D).length + rows.length ≤ LIM := by
    rw [List.length_nil, Nat.zero_add]
    exact LIM_big hl
  have h := lc_pure (F := lcF (.nm 2) [2] [some (.int (m : Int)), some (.tup [b, .tup rows]), none] (fun _ s => .ok true s) (evE (run tbl 1000 (k+4)) (.call "is_memory" (.cons (.var 0) (.cons (.bi .len (.cons (.idx (.var 1) (.int 1)) .nil)) (.cons (.var 2) .nil)))))) (A := fun d : D => d) (G := fun row => some (.bl (memB m (rows.length : Nat) row))) (s := Wl w r) rows [] (fun row hrow => by
    have e := is_memory k hr hm (rows.length : Nat) row (vds_mem hv row hrow)
    generalize (m : Int) = mm at e ⊢
    simp [lcF, bindT, wipeE, evE, evEs, evTs, biT, idxT, dicAt, seqOf, i1, e]) hlen
  have e4 : ([] ++ rows.filterMap fun row => some (D.bl (memB m (rows.length : Nat) row))) = rows.map fun row => .bl (memB m (rows.length : Nat) row) := by
    rw [List.nil_append, List.filterMap_eq_map']
  rw [e4, List.map_id'] at h
  have hi : evIt (run tbl 1000 (k+4)) (.seq (.idx (.var 1) (.int 1))) [some (.int (m : Int)), some (.tup [b, .tup rows]), none] (Wl w r) = .ok ⟨rows, []⟩ (Wl w r) := by
    simp [evIt, evE, idxT, dicAt, seqOf, i1, itemsOf]
  rw [evE, hi]
  exact h
theorem bools_map {α : Type} (f : α → Bool) : ∀ l : List α, bools (l.map fun x => D.bl (f x)) = some (l.map f)
  | [] => rfl
  | x :: xs => by simp [bools, bools_map f xs]
theorem is_machine (k : Nat) {w : Int × Int × Int} {r : Sto} (hr : Cl r) {m : Nat} (h1 : 1 ≤ m) (hm : m ≤ 5) (d : D) (hd : vd (Wl w r) d = true) : run tbl 1000 (k+5) "is_machine" [.int (m : Int), d] (Wl w r) = .ok (.v (.bl (machB m d))) (Wl w r) := by
  have ht := fun b => tidy_d0 (w := w) hr rfl (.bl b) rfl
  have hs := is_size (k+1) (w := w) (d := .int (m : Int)) (j := 5) hr rfl
  rw [siz_of h1 hm] at hs
  have e8 : f_is_machine = ⟨2, 3, [], .cons (nth f_is_machine.body 0) (.cons (nth f_is_machine.body 1) (.cons (nth f_is_machine.body 2) (.cons (.ret (.bi .all (.cons (.lc [("row", 2)] (.nm 2) (.seq (.idx (.var 1) (.int 1))) .none (.call "is_memory" (.cons (.var 0) (.cons (.bi .len (.cons (.idx (.var 1) (.int 1)) .nil)) (.cons (.var 2) .nil))))) .nil))) .nil)))⟩ := rfl
  rw [run, tbl_is_machine]
  have start : ∀ x : D, evS (run tbl 1000 (k+4)) 1000 (nth f_is_machine.body 0) [some (.int (m : Int)), some x, none] (Wl w r) = .nx [some (.int (m : Int)), some x, none] (Wl w r) := fun x => by
    simp only [f_is_machine, nth]
    generalize (m : Int) = mm at hs ⊢
    simp [evSs, evS, evE, evEs, hs, truth]
  have fin0 : ∀ x : D, evS (run tbl 1000 (k+4)) 1000 (nth f_is_machine.body 1) [some (.int (m : Int)), some x, none] (Wl w r) = .rt (.v (.bl false)) (Wl w r) → machB m x = false →
      ((evSs (run tbl 1000 (k+4)) 1000 f_is_machine.body [some (.int (m : Int)), some x, none] (Wl w r)).res (r.length + 1)) = .ok (.v (.bl (machB m x))) (Wl w r) := fun x h hb => by
    rw [e8]
    dsimp only
    rw [seq_nx (start x), seq_rt h, hb]
    simp only [Fl.res, ht]
  have all : ∀ x : D, ((evSs (run tbl 1000 (k+4)) 1000 f_is_machine.body [some (.int (m : Int)), some x, none] (Wl w r)).res (r.length + 1)) = .ok (.v (.bl (machB m x))) (Wl w r) → (match some f_is_machine with
      | some d => if (d.fill [.int (m : Int), x]).length = d.np then (evSs (run tbl 1000 (k+4)) 1000 d.body ((d.fill [.int (m : Int), x]).map some ++ List.replicate (d.nn - d.np) none) (Wl w r)).res (Wl w r).length else .bad
      | none => .bad) = .ok (.v (.bl (machB m x))) (Wl w r) := fun x h => h
  have main : ∀ (b : D) (rows : List D), vd (Wl w r) (.tup [b, .tup rows]) = true → ((evSs (run tbl 1000 (k+4)) 1000 f_is_machine.body [some (.int (m : Int)), some (.tup [b, .tup rows]), none] (Wl w r)).res (r.length + 1)) = .ok (.v (.bl (machB m (.tup [b, .tup rows])))) (Wl w r) := fun b rows hd => by
    simp only [vd, vds, Bool.and_eq_true, and_true] at hd
    have i0 : L2.atI [b, .tup rows] 0 = some b := rfl
    have i1 : L2.atI [b, .tup rows] 1 = some (.tup rows) := rfl
    have st1 : evS (run tbl 1000 (k+4)) 1000 (nth f_is_machine.body 1) [some (.int (m : Int)), some (.tup [b, .tup rows]), none] (Wl w r) = .nx [some (.int (m : Int)), some (.tup [b, .tup rows]), none] (Wl w r) := by
      simp only [f_is_machine, nth]
      generalize (m : Int) = mm
      simp [evSs, evS, evE, evTs, biT, tyOf, kinds, isSub, truth, cmpT, eqT, seqOf, idxT, dicAt, i1]
    have hs2 := is_size (k+1) (w := w) (d := .int (rows.length : Nat)) (j := 5000) hr rfl
    have hb2 := is_number2 (k+2) (w := w) (j := (rows.length : Nat) - 1) hr hd.1
    rw [e8]
    dsimp only
    rw [seq_nx (start _), seq_nx st1]
    by_cases hz : siz 5000 (.int (rows.length : Nat)) = true ∧ num (some ((rows.length : Nat) - 1)) b = true
    · obtain ⟨z1, z2⟩ := hz
      have hlc := rows_lc k hr hm b rows hd.2 (by simp only [siz, Bool.and_eq_true, decide_eq_true_eq] at z1; omega)
      rw [z1] at hs2
      rw [z2] at hb2
      have st2 : evS (run tbl 1000 (k+4)) 1000 (nth f_is_machine.body 2) [some (.int (m : Int)), some (.tup [b, .tup rows]), none] (Wl w r) = .nx [some (.int (m : Int)), some (.tup [b, .tup rows]), none] (Wl w r) := by
        simp only [f_is_machine, nth]
        generalize (m : Int) = mm
        simp [evSs, evS, evE, evEs, evTs, biT, truth, seqOf, idxT, dicAt, i0, i1, hs2, hb2, binT]
      rw [seq_nx st2]
      have hbs := bools_map (fun row => memB m (rows.length : Nat) row) rows
      have hB : machB m (.tup [b, .tup rows]) = rows.all fun row => memB m (rows.length : Nat) row := by simp only [machB, z1, z2, Bool.true_and]
      rw [hB]
      have hall : ((rows.map fun row => memB m (rows.length : Nat) row).all id) = rows.all fun row => memB m (rows.length : Nat) row := by rw [List.all_map]; rfl
      generalize E.lc _ _ _ _ _ = ent at hlc ⊢
      generalize rows.map (fun row => D.bl (memB m (rows.length : Nat) row)) = LL at hlc hbs
      generalize (m : Int) = mm at hlc ⊢
      simp [evSs, evS, evE, evTs, hlc, biT, lstOf, hbs, Fl.then, Fl.res, ht]
    · have hB : machB m (.tup [b, .tup rows]) = false := by
        simp only [machB]
        cases z1 : siz 5000 (.int (rows.length : Nat)) with
        | false => rfl
        | true =>
          cases z2 : num (some ((rows.length : Nat) - 1)) b with
          | false => rfl
          | true => exact absurd ⟨z1, z2⟩ hz
      have st2 : evS (run tbl 1000 (k+4)) 1000 (nth f_is_machine.body 2) [some (.int (m : Int)), some (.tup [b, .tup rows]), none] (Wl w r) = .rt (.v (.bl false)) (Wl w r) := by
        simp only [f_is_machine, nth]
        generalize (m : Int) = mm
        cases z1 : siz 5000 (.int (rows.length : Nat)) with
        | false =>
          rw [z1] at hs2
          simp [evSs, evS, evE, evEs, evTs, biT, truth, seqOf, idxT, dicAt, i0, i1, hs2, binT, Fl.then]
        | true =>
          rw [z1] at hs2
          cases z2 : num (some ((rows.length : Nat) - 1)) b with
          | false =>
            rw [z2] at hb2
            simp [evSs, evS, evE, evEs, evTs, biT, truth, seqOf, idxT, dicAt, i0, i1, hs2, hb2, binT, Fl.then]
          | true => exact absurd ⟨z1, z2⟩ hz
      rw [seq_rt st2, hB]
      simp only [Fl.res, ht]
  refine all d ?_
  match d, hd with
  | .tup [], _ => exact fin0 _ (by simp only [f_is_machine, nth]; generalize (m : Int) = mm; simp [evSs, evS, evE, evTs, biT, tyOf, kinds, isSub, truth, cmpT, eqT, seqOf, Fl.then]) rfl
  | .tup [_], _ => exact fin0 _ (by simp only [f_is_machine, nth]; generalize (m : Int) = mm; simp [evSs, evS, evE, evTs, biT, tyOf, kinds, isSub, truth, cmpT, eqT, seqOf, Fl.then]) rfl
  | .tup (a :: b :: c :: q), _ =>
    have hne : ¬ ((q.length : Int) + 1 + 1 + 1 = 2) := by omega
    exact fin0 _ (by simp only [f_is_machine, nth]; generalize (m : Int) = mm; simp [evSs, evS, evE, evTs, biT, tyOf, kinds, isSub, truth, cmpT, eqT, seqOf, hne, Fl.then]) (by simp [machB])
  | .tup [b, x], hd =>
    have hd0 := hd
    simp only [vd, vds, Bool.and_eq_true, and_true] at hd
    have i1 : L2.atI [b, x] 1 = some x := rfl
    by_cases hx : ∃ rows, x = .tup rows
    · obtain ⟨rows, rfl⟩ := hx
      exact main b rows hd0
    · have hB : machB m (.tup [b, x]) = false := by
        cases x with
        | tup rows => exact absurd ⟨rows, rfl⟩ hx
        | _ => rfl
      have hty : biT .isinst [.v x, .v (.ty "tuple")] (Wl w r) = some (.v (.bl false)) := by
        cases x with
        | tup rows => exact absurd ⟨rows, rfl⟩ hx
        | loc j =>
          have hd2 := hd.2
          simp only [vd, Option.isSome_iff_exists] at hd2
          obtain ⟨xs, e⟩ := hd2
          simp [biT, tyOf, e, kinds, isSub]
        | fro _ => simp [vd] at hd
        | ty _ => simp [vd] at hd
        | gl _ => simp [vd] at hd
        | _ => simp [biT, tyOf, kinds, isSub]
      refine fin0 _ ?_ hB
      simp only [f_is_machine, nth]
      generalize (m : Int) = mm
      have hlen : biT .len [.v (.tup [b, x])] (Wl w r) = some (.v (.int 2)) := rfl
      have hty0 : biT .isinst [.v (.tup [b, x]), .v (.ty "tuple")] (Wl w r) = some (.v (.bl true)) := rfl
      simp [evSs, evS, evE, evTs, hlen, hty, hty0, truth, cmpT, eqT, seqOf, idxT, dicAt, i1, Fl.then]
  | .loc j, hp =>
    simp only [vd, Option.isSome_iff_exists] at hp
    obtain ⟨xs, e⟩ := hp
    exact fin0 _ (by simp only [f_is_machine, nth]; generalize (m : Int) = mm; simp [evSs, evS, evE, evTs, biT, tyOf, e, kinds, isSub, truth, Fl.then]) rfl
  | .non, _ => exact fin0 _ (by simp only [f_is_machine, nth]; generalize (m : Int) = mm; simp [evSs, evS, evE, evTs, biT, tyOf, kinds, isSub, truth, Fl.then]) rfl
  | .bl _, _ => exact fin0 _ (by simp only [f_is_machine, nth]; generalize (m : Int) = mm; simp [evSs, evS, evE, evTs, biT, tyOf, kinds, isSub, truth, Fl.then]) rfl
  | .int _, _ => exact fin0 _ (by simp only [f_is_machine, nth]; generalize (m : Int) = mm; simp [evSs, evS, evE, evTs, biT, tyOf, kinds, isSub, truth, Fl.then]) rfl
  | .str _, _ => exact fin0 _ (by simp only [f_is_machine, nth]; generalize (m : Int) = mm; simp [evSs, evS, evE, evTs, biT, tyOf, kinds, isSub, truth, Fl.then]) rfl
  | .fro _, hp => simp [vd] at hp
  | .ty _, hp => simp [vd] at hp
  | .gl _, hp => simp [vd] at hp
theorem machine_no (k : Nat) {w : Int × Int × Int} {r : Sto} (hr : Cl r) {d x : D} (hd : vd (Wl w r) d = true) (h0 : siz 5 d = false) : run tbl 1000 (k+4) "is_machine" [d, x] (Wl w r) = .ex ⟨"Refused", .str "many"⟩ (Wl w r) := by
  have hs := is_size k (w := w) (j := 5) hr hd
  have e1 : (Wl w r).take (r.length + 1) = Wl w r := by unfold Wl; simp
  have e2 := hr.wl w
  rw [run, tbl_is_machine]
  simp only [f_is_machine]
  simp [Fn.fill, evSs, evS, evE, evEs, hs, h0, truth, Fl.then, Fl.res, Wl_len, e1, e2, D.under]
end K61
end
section
set_option maxRecDepth 100000
set_option maxHeartbeats 1000000
set_option linter.unusedSimpArgs false
namespace K61
open Fy
open PySem (PyData)
/-! ### _law_like -/
theorem like_int (k : Nat) {w : Int × Int × Int} {r : Sto} (hr : Cl r) (a : Int) : run tbl 1000 (k+1) "_law_like" [.int a, .int a] (Wl w r) = .ok (.v (.bl true)) (Wl w r) := by
  have ht := fun b => tidy_d0 (w := w) hr rfl (.bl b) rfl
  rw [run, tbl__law_like]
  simp only [f__law_like]
  generalize E.lc _ _ _ _ _ = ent
  simp [Fn.fill, evSs, evS, evE, evEs, evTs, biT, tyOf, kinds, isSub, truth, cmpT, isT, eqT, Fl.then, Fl.res, Wl_len, ht]
theorem like_bl (k : Nat) {w : Int × Int × Int} {r : Sto} (hr : Cl r) (a b : Bool) : run tbl 1000 (k+1) "_law_like" [.bl a, .bl b] (Wl w r) = .ok (.v (.bl (a == b))) (Wl w r) := by
  have ht := fun b => tidy_d0 (w := w) hr rfl (.bl b) rfl
  rw [run, tbl__law_like]
  simp only [f__law_like]
  generalize E.lc _ _ _ _ _ = ent
  simp [Fn.fill, evSs, evS, evE, evEs, evTs, biT, tyOf, kinds, isSub, truth, cmpT, isT, eqT, Fl.then, Fl.res, Wl_len, ht]
theorem at_nat {xs : List D} {i : Nat} (h : i < xs.length) : L2.atI xs (i : Int) = some xs[i] := L2.atI_nat (List.getElem?_eq_getElem h)
theorem bools_true {α : Type} (l : List α) : bools (l.map fun _ => D.bl true) = some (l.map fun _ => true) := bools_map (fun _ => true) l
theorem like_tup (k : Nat) {w : Int × Int × Int} {r : Sto} (hr : Cl r) (xs : List D) (hl : xs.length ≤ 10000) (h : ∀ x ∈ xs, run tbl 1000 k "_law_like" [x, x] (Wl w r) = .ok (.v (.bl true)) (Wl w r)) :
    run tbl 1000 (k+1) "_law_like" [.tup xs, .tup xs] (Wl w r) = .ok (.v (.bl true)) (Wl w r) := by
  have ht := fun b => tidy_d0 (w := w) hr rfl (.bl b) rfl
  have hlen : ([] : List D).length + (List.range xs.length).length ≤ LIM := by
    rw [List.length_nil, List.length_range, Nat.zero_add]
    exact LIM_big (by omega)
  have hlc := lc_pure (F := lcF (.nm 2) [2] [some (.tup xs), some (.tup xs), none] (fun _ s => .ok true s) (evE (run tbl 1000 k) (.call "_law_like" (.cons (.idx (.var 0) (.var 2)) (.cons (.idx (.var 1) (.var 2)) .nil))))) (A := fun i : Nat => D.int (i : Int)) (G := fun _ => some (.bl true)) (s := Wl w r) (List.range xs.length) [] (fun i hi => by
    have hi' := List.mem_range.mp hi
    have e1 := at_nat hi'
    have e2 := h xs[i] (List.getElem_mem hi')
    generalize (i : Int) = ii at e1 ⊢
    simp [lcF, bindT, wipeE, evE, evEs, idxT, dicAt, seqOf, e1, e2]) hlen
  have e4 : ([] ++ (List.range xs.length).filterMap fun _ : Nat => some (D.bl true)) = (List.range xs.length).map fun _ => D.bl true := by
    rw [List.nil_append, List.filterMap_eq_map']
  rw [e4] at hlc
  have hi : evIt (run tbl 1000 k) (.rng (.cons (.bi .len (.cons (.var 1) .nil)) .nil)) [some (.tup xs), some (.tup xs), none] (Wl w r) = .ok ⟨(List.range xs.length).map fun i => D.int (i : Nat), []⟩ (Wl w r) := by
    have r5 := rng0 (b := xs.length) (by omega)
    generalize hq : ((xs.length : Nat) : Int) = q at r5
    simp [evIt, evEs, evE, evTs, biT, seqOf, rangeOf, hq, r5]
  have hE : evE (run tbl 1000 k) (.lc [("at", 2)] (.nm 2) (.rng (.cons (.bi .len (.cons (.var 1) .nil)) .nil)) .none (.call "_law_like" (.cons (.idx (.var 0) (.var 2)) (.cons (.idx (.var 1) (.var 2)) .nil)))) [some (.tup xs), some (.tup xs), none] (Wl w r) = .ok (.l ((List.range xs.length).map fun _ => D.bl true)) (Wl w r) := by
    rw [evE, hi]
    exact hlc
  have hb := bools_true (List.range xs.length)
  rw [run, tbl__law_like]
  simp only [f__law_like]
  generalize (List.range xs.length).map (fun _ => D.bl true) = LL at hE hb
  generalize E.lc _ _ _ _ _ = ent at hE ⊢
  simp [Fn.fill, evSs, evS, evE, evEs, evTs, biT, tyOf, kinds, isSub, truth, cmpT, isT, eqT, seqOf, lstOf, hE, hb, Fl.then, Fl.res, Wl_len, ht]
/-! ### slices -/
theorem cut_to (xs : List D) (m : Nat) : cutD xs none (some (m : Int)) = xs.take m := by
  unfold cutD
  rw [HT.sIx_none, HT.sIx_nat]
  simp only [List.drop_zero, Nat.sub_zero]
  by_cases h : m ≤ xs.length
  · rw [Nat.min_eq_left h]
  · rw [Nat.min_eq_right (by omega), List.take_of_length_le (by simp), List.take_of_length_le (by omega)]
theorem cut_from (xs : List D) (m : Nat) : cutD xs (some (m : Int)) none = xs.drop m := by
  unfold cutD
  rw [HT.sIx_none, HT.sIx_nat]
  by_cases h : m ≤ xs.length
  · rw [Nat.min_eq_left h, List.take_of_length_le (by simp)]
  · rw [Nat.min_eq_right (by omega), List.drop_of_length_le (by omega), List.drop_of_length_le (by omega), List.take_nil]
/-! ### _law_lots -/
def dbl : Nat → List (List Int)
  | 0 => [[]]
  | i + 1 => dbl i ++ (dbl i).map fun l => l ++ [(i : Int)]
theorem dbl_len : ∀ i, (dbl i).length = 2 ^ i
  | 0 => rfl
  | i + 1 => by simp [dbl, dbl_len i, Nat.pow_succ]; omega
theorem dbl_row : ∀ i, ∀ l ∈ dbl i, l.length ≤ i
  | 0, l, h => by simp [dbl] at h; simp [h]
  | i + 1, l, h => by
    simp only [dbl, List.mem_append, List.mem_map] at h
    rcases h with h | ⟨q, h, rfl⟩
    · have := dbl_row i l h; omega
    · have := dbl_row i q h; simp; omega
theorem dbl_lots {m : Nat} (h1 : 1 ≤ m) (hm : m ≤ 5) : (dbl m).drop 1 = lots m := by
  have : m = 1 ∨ m = 2 ∨ m = 3 ∨ m = 4 ∨ m = 5 := by omega
  rcases this with rfl | rfl | rfl | rfl | rfl <;> decide +kernel
/-- a comprehension that draws nothing, over what stands -/
theorem lc_pureS {α : Type} {F : D → Sto → R (Option D)} {A : α → D} {G : α → Option D} {s : Sto} {src : List (Nat × List D)} (hs : stands src s = true) : ∀ (ys : List α) (acc : List D), (∀ y ∈ ys, F (A y) s = .ok (G y) s) → acc.length + ys.length ≤ LIM → lcLoop F src (ys.map A) acc s = .ok (.l (acc ++ ys.filterMap G)) s
  | [], acc, _, _ => by simp [lcLoop, hs]
  | y :: ys, acc, h, hl => by
    simp only [List.length_cons] at hl
    have e1 := h y (by simp)
    have hlt : acc.length < LIM := by omega
    cases hg : G y with
    | none =>
      have e2 := lc_pureS hs ys acc (fun z hz => h z (by simp [hz])) (by omega)
      simp [lcLoop, hs, e1, hg, e2]
    | some d =>
      have e2 := lc_pureS hs ys (acc ++ [d]) (fun z hz => h z (by simp [hz])) (by simp; omega)
      simp [lcLoop, hs, e1, hg, hlt, e2]
/-- a loop by its invariant -/
theorem for_inv {α : Type} {F : D → Env → Sto → Fl} {A : α → D} {P : Nat → Env → Sto → Prop} : ∀ (ys : List α) (i : Nat) (ρ : Env) (s : Sto), (∀ j y ρ s, ys[j]? = some y → P (i + j) ρ s → ∃ ρ' s', (F (A y) ρ s = .nx ρ' s' ∨ F (A y) ρ s = .ct ρ' s') ∧ P (i + j + 1) ρ' s') → P i ρ s →
    ∃ ρ' s', forLoop F [] (ys.map A) ρ s = .nx ρ' s' ∧ P (i + ys.length) ρ' s'
  | [], i, ρ, s, _, h => ⟨ρ, s, by simp [forLoop, stands], h⟩
  | y :: ys, i, ρ, s, hs, h => by
    obtain ⟨ρ1, s1, e, h1⟩ := hs 0 y ρ s rfl h
    obtain ⟨ρ', s', e2, h2⟩ := for_inv ys (i + 1) ρ1 s1 (fun j y ρ s hy hp => by
      have := hs (j + 1) y ρ s (by simpa using hy) (by rw [show i + (j + 1) = i + 1 + j by omega]; exact hp)
      rw [show i + (j + 1) + 1 = i + 1 + j + 1 by omega] at this
      exact this) h1
    refine ⟨ρ', s', ?_, by rw [List.length_cons, show i + (ys.length + 1) = i + 1 + ys.length by omega]; exact h2⟩
    rcases e with e | e <;> simp [forLoop, stands, e, Fl.turn, e2]
theorem lots_step (k : Nat) {S : Sto} {n i : Nat} (x0 : D) (o2 o3 : Option D) (hi : i < 5) (h : S[n]? = some (.lst ((dbl i).map lotD))) :
    forF (.nm 2) (evSs (run tbl 1000 k) 1000 (forB (nth f__law_lots.body 1))) (.int (i : Int)) [some x0, some (.loc n), o2, o3] S = .nx [some x0, some (.loc S.length), some (.int (i : Int)), o3] (S ++ [.lst ((dbl (i + 1)).map lotD)]) := by
  have hL1 : (1 : Nat) ≤ LIM := by decide
  have la : lstAt n S = some ((dbl i).map lotD) := by simp only [lstAt, h]
  have hst : stands [(n, (dbl i).map lotD)] S = true := by simp [stands, la]
  have hp : 2 ^ i ≤ 32 := two_pow (by omega)
  have hlen := dbl_len i
  have hl : ([] : List D).length + (dbl i).length ≤ LIM := by
    rw [List.length_nil, Nat.zero_add, hlen]; exact LIM_big (by omega)
  have e : ∀ l ∈ dbl i, lcF (.nm 3) [3] [some x0, some (.loc n), some (.int (i : Int)), o3] (fun _ s => .ok true s) (evE (run tbl 1000 k) (.bin .add (.var 3) (.tup (.cons (.var 2) .nil)))) (lotD l) S = .ok (some (lotD (l ++ [(i : Int)]))) S := fun l hl => by
    have hr := dbl_row i l hl
    have hb : l.length + 1 ≤ LIM := LIM_big (by omega)
    simp [lcF, lotD, bindT, wipeE, evE, evEs, binT, hL1, hb]
  have hlc := lc_pureS hst (dbl i) [] e hl
  rw [List.nil_append, List.filterMap_eq_map'] at hlc
  have e2 : (dbl i).map lotD ++ (dbl i).map (fun l => lotD (l ++ [(i : Int)])) = (dbl (i + 1)).map lotD := by simp [dbl]
  have hb2 : (dbl i).length + (dbl i).length ≤ LIM := LIM_big (by omega)
  have hE : evE (run tbl 1000 k) (.lc [("lot", 3)] (.nm 3) (.seq (.var 1)) .none (.bin .add (.var 3) (.tup (.cons (.var 2) .nil)))) [some x0, some (.loc n), some (.int (i : Int)), o3] S = .ok (.l ((dbl i).map (fun l => lotD (l ++ [(i : Int)])))) S := by
    have hi2 : evIt (run tbl 1000 k) (.seq (.var 1)) [some x0, some (.loc n), some (.int (i : Int)), o3] S = .ok ⟨(dbl i).map lotD, [(n, (dbl i).map lotD)]⟩ S := by
      simp [evIt, evE, itemsOf, la]
    rw [evE, hi2]
    exact hlc
  have hadd : binT .add (.v (.loc n)) (.l ((dbl i).map (fun l => lotD (l ++ [(i : Int)])))) S = some (.l ((dbl (i + 1)).map lotD)) := by
    have : binT .add (.v (.loc n)) (.l ((dbl i).map (fun l => lotD (l ++ [(i : Int)])))) S = (mlstOf (.v (.loc n)) S).bind fun a => (mlstOf (.l ((dbl i).map (fun l => lotD (l ++ [(i : Int)])))) S).bind fun b => if a.length + b.length ≤ LIM then some (.l (a ++ b)) else none := rfl
    have hm1 : mlstOf (.v (.loc n)) S = some ((dbl i).map lotD) := by simp only [mlstOf, h]
    rw [this, hm1]
    simp only [Option.bind_some, mlstOf, List.length_map, hb2, if_true, e2]
  rw [forF_ap]
  have bt : bindT (.nm 2) (.int (i : Int)) [some x0, some (.loc n), o2, o3] = some [some x0, some (.loc n), some (.int (i : Int)), o3] := rfl
  rw [bt]
  simp only [f__law_lots, nth, forB]
  generalize E.lc _ _ _ _ _ = ent2 at hE ⊢
  generalize (dbl (i + 1)).map lotD = LN at hadd ⊢
  simp [evSs, evS, evE, hE, hadd, bindT, Fl.then]
theorem law_lots (k : Nat) {w : Int × Int × Int} {r : Sto} (hr : Cl r) {m : Nat} (h1 : 1 ≤ m) (hm : m ≤ 5) : run tbl 1000 (k+1) "_law_lots" [.int (m : Int)] (Wl w r) = .ok (.l (lotsD m)) (Wl w r) := by
  have hL0 : (0 : Nat) ≤ LIM := by decide
  have hL1 : (1 : Nat) ≤ LIM := by decide
  obtain ⟨ρ', s', e, x, n, o2, o3, rfl, hn, rfl⟩ := for_inv (F := forF (.nm 2) (evSs (run tbl 1000 k) 1000 (forB (nth f__law_lots.body 1)))) (A := fun i : Nat => D.int (i : Int))
    (P := fun j ρ s => ∃ (x : Sto) (n : Nat) (o2 o3 : Option D), s = Wl w (r ++ x) ∧ s[n]? = some (.lst ((dbl j).map lotD)) ∧ ρ = [some (.int (m : Int)), some (.loc n), o2, o3]) (List.range m) 0
    [some (.int (m : Int)), some (.loc (r.length + 1)), none, none] (Wl w (r ++ [.lst [lotD []]])) (fun j y ρ s hy ⟨x, n, o2, o3, es, hn, eρ⟩ => by
      subst es eρ
      obtain ⟨hj, ej⟩ := List.getElem?_eq_some_iff.mp hy
      simp only [List.length_range] at hj
      simp only [List.getElem_range] at ej
      subst ej
      rw [Nat.zero_add] at hn ⊢
      have e := lots_step k (.int (m : Int)) o2 o3 (show j < 5 by omega) hn
      refine ⟨_, _, .inl e, x ++ [.lst ((dbl (j + 1)).map lotD)], _, _, _, by rw [Wl_app, List.append_assoc], by simp, rfl⟩) ⟨[.lst [lotD []]], r.length + 1, none, none, rfl, by rw [Wl_s]; simp [dbl], rfl⟩
  rw [List.length_range, Nat.zero_add] at hn
  have r5 := rng5 hm
  have hi : evIt (run tbl 1000 k) (.rng (.cons (.var 0) .nil)) [some (.int (m : Int)), some (.loc (r.length + 1)), none, none] (Wl w (r ++ [.lst [lotD []]])) = .ok ⟨(List.range m).map fun i => D.int (i : Nat), []⟩ (Wl w (r ++ [.lst [lotD []]])) := by
    simp [evIt, evEs, evE, rangeOf, r5]
  have ht := tidy_l (w := w) (x := x) hr rfl (lotsD m) (under_lots _)
  have e8 : f__law_lots = ⟨1, 4, [], .cons (.asg (.nm 1) (.lst (.cons (.tup .nil) .nil))) (.cons (.for_ (.nm 2) (.rng (.cons (.var 0) .nil)) (forB (nth f__law_lots.body 1))) (.cons (.ret (.slc (.var 1) (.some (.int 1)) .none)) .nil))⟩ := rfl
  rw [run, tbl__law_lots, e8]
  simp only [Fn.fill, List.append_nil, List.drop_nil, List.length_cons, List.length_nil, Nat.zero_add, if_true, List.map_cons, List.map_nil, Nat.reduceSub, Nat.reduceAdd, List.replicate, List.cons_append, List.nil_append]
  rw [seq_nx (ρ' := [some (.int (m : Int)), some (.loc (r.length + 1)), none, none]) (s' := Wl w (r ++ [.lst [lotD []]])) (by
    generalize (m : Int) = mm
    simp [evS, evE, evEs, hL0, hL1, bindT, Wl_len, Wl_app, lotD])]
  rw [for_then hi]
  dsimp only
  rw [e]
  have la : lstOf (.v (.loc n)) (Wl w (r ++ x)) = some ((dbl m).map lotD) := by simp only [lstOf, lstAt, hn]
  have hc : cutD ((dbl m).map lotD) (some 1) none = lotsD m := by
    have := cut_from ((dbl m).map lotD) 1
    rw [show ((1 : Nat) : Int) = 1 from rfl] at this
    rw [this, ← List.map_drop, dbl_lots h1 hm]
    rfl
  have hsl : slcT (.v (.loc n)) (some 1) none (Wl w (r ++ x)) = some (.l (lotsD m)) := by
    have : slcT (.v (.loc n)) (some 1) none (Wl w (r ++ x)) = (lstOf (.v (.loc n)) (Wl w (r ++ x))).map fun xs => .l (cutD xs (some 1) none) := rfl
    rw [this, la, Option.map_some, hc]
  generalize (m : Int) = mm
  simp [Fl.then, evSs, evS, evE, evEo, hsl, Fl.res, Wl_len]
  exact ht
end K61
end
section
set_option maxRecDepth 100000
set_option maxHeartbeats 1000000
set_option linter.unusedSimpArgs false
namespace K61
open Fy
open PySem (PyData)
/-! ### machines -/
def pr (p : Int × Int) : D := .tup [.int p.1, .int p.2]
def rowD (l : List (Int × Int)) : D := .tup (l.map pr)
def mD (b : Int) (M : List (List (Int × Int))) : D := .tup [.int b, .tup (M.map rowD)]
structure Mach (m n : Nat) (b : Int) (M : List (List (Int × Int))) : Prop where
  n1 : 1 ≤ n
  n9 : n ≤ 9
  len : M.length = n
  b0 : 0 ≤ b
  bn : b < n
  rows : ∀ row ∈ M, row.length = 2 ^ m - 1
  ent : ∀ row ∈ M, ∀ (j : Nat) (p : Int × Int), row[j]? = some p → p.1 ∈ lotAt m (j + 1) ∧ 0 ≤ p.2 ∧ p.2 < (n : Int)
theorem under_prs (n : Nat) : ∀ ps : List (Int × Int), D.unders n (ps.map pr) = true
  | [] => rfl
  | p :: ps => by simp [D.unders, D.under, pr, under_prs n ps]
theorem under_rows (n : Nat) : ∀ M : List (List (Int × Int)), D.unders n (M.map rowD) = true
  | [] => rfl
  | p :: ps => by simp [D.unders, D.under, rowD, under_prs, under_rows n ps]
theorem under_mD (n : Nat) (b : Int) (M : List (List (Int × Int))) : D.under n (mD b M) = true := by simp [mD, D.under, D.unders, under_rows]
theorem m_row {M : List (List (Int × Int))} {i : Int} (h0 : 0 ≤ i) (hn : i < M.length) : ∃ row, M[i.toNat]? = some row ∧ row ∈ M ∧ L2.atI (M.map rowD) i = some (rowD row) := by
  obtain ⟨j, rfl⟩ := Int.eq_ofNat_of_zero_le h0
  have hj : j < M.length := by omega
  refine ⟨M[j], by simp [hj], List.getElem_mem hj, ?_⟩
  exact L2.atI_nat (by simp [hj])
theorem r_at {row : List (Int × Int)} {j : Nat} (h : j < row.length) : ∃ p, row[j]? = some p ∧ L2.atI (row.map pr) (j : Int) = some (pr p) := ⟨row[j], by simp [h], L2.atI_nat (by simp [h])⟩
/-! ### the memories that come -/
theorem nodup_le : ∀ (n : Nat) (l : List Int), l.Nodup → (∀ x ∈ l, 0 ≤ x ∧ x < (n : Int)) → l.length ≤ n
  | 0, l, _, h => by
    cases l with
    | nil => simp
    | cons x l => have := h x (by simp); omega
  | n + 1, l, hd, h => by
    by_cases hm : (n : Int) ∈ l
    · have h1 := nodup_le n (l.erase (n : Int)) (hd.erase _) (fun x hx => by
        have hx' := (List.Nodup.mem_erase_iff hd).mp hx
        have := h x hx'.2
        have hne : x ≠ (n : Int) := hx'.1
        omega)
      rw [List.length_erase_of_mem hm] at h1
      omega
    · have := nodup_le n l hd (fun x hx => by
        have := h x hx
        have hne : x ≠ (n : Int) := fun e => hm (e ▸ hx)
        omega)
      omega
def proc (row : List Int) (l : List (Int × Int)) : List Int := l.foldl (fun r p => if p.2 ∈ r then r else r ++ [p.2]) row
def itM (M : List (List (Int × Int))) (b : Int) : Nat → List Int
  | 0 => [b]
  | j + 1 => if j < (itM M b j).length then proc (itM M b j) (M.getD ((itM M b j).getD j 0).toNat []) else itM M b j
def Inv (n : Nat) (l : List Int) : Prop := l.Nodup ∧ ∀ x ∈ l, 0 ≤ x ∧ x < (n : Int)
theorem proc_inv {n : Nat} : ∀ (l : List (Int × Int)) (row : List Int), Inv n row → (∀ p ∈ l, 0 ≤ p.2 ∧ p.2 < (n : Int)) → Inv n (proc row l)
  | [], row, h, _ => h
  | p :: l, row, h, hl => by
    show Inv n (proc (if p.2 ∈ row then row else row ++ [p.2]) l)
    refine proc_inv l _ ?_ fun q hq => hl q (by simp [hq])
    split
    · exact h
    · rename_i hn
      refine ⟨List.nodup_append.mpr ⟨h.1, by simp, fun a ha b hb => ?_⟩, fun x hx => ?_⟩
      · have : b = p.2 := by simpa using hb
        subst this
        rintro rfl
        exact hn ha
      · rcases List.mem_append.mp hx with hx | hx
        · exact h.2 x hx
        · have : x = p.2 := by simpa using hx
          subst this
          exact hl p (by simp)
theorem Mach.entry {m n : Nat} {b : Int} {M : List (List (Int × Int))} (h : Mach m n b M) {row : List (Int × Int)} (hr : row ∈ M) : ∀ p ∈ row, 0 ≤ p.2 ∧ p.2 < (n : Int) := fun p hp => by
  obtain ⟨j, hj, e⟩ := List.mem_iff_getElem.mp hp
  exact (h.ent row hr j p (by simp [hj, e])).2
theorem it_inv {m n : Nat} {b : Int} {M : List (List (Int × Int))} (h : Mach m n b M) : ∀ j, Inv n (itM M b j)
  | 0 => ⟨by simp [itM], fun x hx => by simp [itM] at hx; subst hx; exact ⟨h.b0, h.bn⟩⟩
  | j + 1 => by
    have ih := it_inv h j
    unfold itM
    split
    · rename_i hj
      have hx := ih.2 ((itM M b j).getD j 0) (by rw [List.getD_eq_getElem?_getD, List.getElem?_eq_getElem hj]; exact List.getElem_mem hj)
      refine proc_inv _ _ ih fun p hp => ?_
      have hlt : ((itM M b j).getD j 0).toNat < M.length := by rw [h.len]; omega
      rw [List.getD_eq_getElem?_getD, List.getElem?_eq_getElem hlt] at hp
      exact h.entry (List.getElem_mem hlt) p hp
    · exact ih
theorem it_len {m n : Nat} {b : Int} {M : List (List (Int × Int))} (h : Mach m n b M) (j : Nat) : (itM M b j).length ≤ n := nodup_le n _ (it_inv h j).1 (it_inv h j).2
theorem it_stop {b : Int} {M : List (List (Int × Int))} {j : Nat} (h : (itM M b j).length ≤ j) : ∀ d, itM M b (j + d) = itM M b j
  | 0 => rfl
  | d + 1 => by
    have ih := it_stop h d
    have e : itM M b ((j + d) + 1) = if j + d < (itM M b (j + d)).length then proc (itM M b (j + d)) (M.getD ((itM M b (j + d)).getD (j + d) 0).toNat []) else itM M b (j + d) := rfl
    show itM M b ((j + d) + 1) = _
    rw [e, ih, if_neg (by omega)]
def kvs (row : List Int) : List (List Ky × D) := row.map fun x => ([.inl x], .bl true)
theorem kv_val (x : Int) : ∀ row : List Int, (dval (kvs row) [.inl x]).isSome = decide (x ∈ row)
  | [] => rfl
  | y :: row => by
    have ih := kv_val x row
    unfold dval kvs at ih ⊢
    rw [List.map_cons, List.find?_cons]
    by_cases h : y = x
    · subst h; simp
    · have h1 : decide (([Sum.inl y] : List Ky) = [Sum.inl x]) = false := by simp [h]
      simp only [h1]
      rw [ih]
      have h' : ¬ x = y := fun e => h e.symm
      exact decide_eq_decide.mpr (by simp [h'])
theorem kv_set {x : Int} {row : List Int} (h : x ∉ row) : dset (kvs row) [.inl x] (.bl true) = kvs (row ++ [x]) := by
  have hn : ((kvs row).any fun kv => decide (kv.1 = [.inl x])) = false := by
    rw [List.any_eq_false]
    intro kv hkv
    unfold kvs at hkv
    obtain ⟨y, hy, rfl⟩ := List.mem_map.mp hkv
    simp only [decide_eq_true_eq]
    intro e
    simp at e
    exact h (e ▸ hy)
  unfold dset
  rw [hn]
  simp [kvs]
def St2 (w : Int × Int × Int) (r : Sto) (row : List Int) : Sto := Wl w (r ++ [.lst (row.map .int), .dic false (kvs row)])
theorem st_row (w : Int × Int × Int) (r : Sto) (row : List Int) : (St2 w r row)[r.length + 1]? = some (.lst (row.map .int)) := by
  unfold St2; rw [Wl_s]; simp
theorem st_dic (w : Int × Int × Int) (r : Sto) (row : List Int) : (St2 w r row)[r.length + 2]? = some (.dic false (kvs row)) := by
  unfold St2; rw [Wl_s]; simp
theorem st_set (w : Int × Int × Int) (r : Sto) (row row' : List Int) : ((St2 w r row).set (r.length + 2) (.dic false (kvs row'))).set (r.length + 1) (.lst (row'.map .int)) = St2 w r row' := by
  unfold St2 Wl
  simp [List.set_cons_succ, List.set_append]
def seenBody : Ss := forB (nth (forB (nth f_memories_of.body 1)) 0)
theorem seen_turn (cf : CallF) {w : Int × Int × Int} {r : Sto} (row : List Int) (hl : row.length ≤ 1000) (p : Int × Int) (x0 : D) (o3 o4 o5 : Option D) :
    forF (.tp (.cons (.nm 4) (.cons (.nm 5) .nil))) (evSs cf 1000 seenBody) (pr p) [some x0, some (.loc (r.length + 1)), some (.loc (r.length + 2)), o3, o4, o5] (St2 w r row) =
      .nx [some x0, some (.loc (r.length + 1)), some (.loc (r.length + 2)), o3, some (.int p.1), some (.int p.2)] (St2 w r (if p.2 ∈ row then row else row ++ [p.2])) := by
  have bt : bindT (.tp (.cons (.nm 4) (.cons (.nm 5) .nil))) (pr p) [some x0, some (.loc (r.length + 1)), some (.loc (r.length + 2)), o3, o4, o5] = some [some x0, some (.loc (r.length + 1)), some (.loc (r.length + 2)), o3, some (.int p.1), some (.int p.2)] := rfl
  rw [forF_ap, bt]
  simp only [seenBody, f_memories_of, nth, forB]
  have h2 := st_dic w r row
  have hlt : (kvs row).length < LIM := by unfold kvs; rw [List.length_map]; exact LIM_lt (by omega)
  have hlr : row.length < LIM := LIM_lt (by omega)
  by_cases hp : p.2 ∈ row
  · have hv := kv_val p.2 row
    rw [decide_eq_true hp] at hv
    have hin : inT (.v (.int p.2)) (.v (.loc (r.length + 2))) (St2 w r row) = some true := by
      simp only [inT, dicAt, h2, dkey, dkA, Bool.false_eq_true, if_false, Option.map_some, hv]
    simp [evSs, evS, evE, hin, truth, cmpT, hp, Fl.then]
  · have hv := kv_val p.2 row
    rw [decide_eq_false hp] at hv
    have hin : inT (.v (.int p.2)) (.v (.loc (r.length + 2))) (St2 w r row) = some false := by
      simp only [inT, dicAt, h2, dkey, dkA, Bool.false_eq_true, if_false, Option.map_some, hv]
    have hput : putAt (.v (.loc (r.length + 2))) (.int p.2) (.bl true) (St2 w r row) = some ((St2 w r row).set (r.length + 2) (.dic false (kvs (row ++ [p.2])))) := by
      simp only [putAt, dicPut, h2, dkey, dkA, Bool.false_eq_true, if_false, Option.map_some, Option.bind_some, hlt, if_true, kv_set hp]
    have h1 : ((St2 w r row).set (r.length + 2) (.dic false (kvs (row ++ [p.2]))))[r.length + 1]? = some (.lst (row.map .int)) := by
      rw [List.getElem?_set_ne (by omega)]
      exact st_row w r row
    have hs := st_set w r row (row ++ [p.2])
    have happ : appT (.v (.loc (r.length + 1))) [.int p.2] ((St2 w r row).set (r.length + 2) (.dic false (kvs (row ++ [p.2])))) = .ok (.v .non) (St2 w r (row ++ [p.2])) := by
      have e : (row.map D.int) ++ [D.int p.2] = (row ++ [p.2]).map .int := by simp
      simp only [appT, h1, List.length_map, hlr, if_true, e, hs]
    have hls : isLst (.v (.loc (r.length + 1))) ((St2 w r row).set (r.length + 2) (.dic false (kvs (row ++ [p.2])))) = some (.v (.loc (r.length + 1))) := by
      simp only [isLst, lstOf, lstAt, h1, Option.map_some]
    simp [evSs, evS, evE, evEs, hin, truth, cmpT, hp, hput, hls, happ, Fl.then]
theorem seen_loop (cf : CallF) {w : Int × Int × Int} {r : Sto} {n : Nat} (hn : n ≤ 1000) (x0 : D) : ∀ (l : List (Int × Int)) (row : List Int) (o3 o4 o5 : Option D), Inv n row → (∀ p ∈ l, 0 ≤ p.2 ∧ p.2 < (n : Int)) →
    ∃ q4 q5, forLoop (forF (.tp (.cons (.nm 4) (.cons (.nm 5) .nil))) (evSs cf 1000 seenBody)) [] (l.map pr) [some x0, some (.loc (r.length + 1)), some (.loc (r.length + 2)), o3, o4, o5] (St2 w r row) =
      .nx [some x0, some (.loc (r.length + 1)), some (.loc (r.length + 2)), o3, q4, q5] (St2 w r (proc row l))
  | [], row, o3, o4, o5, _, _ => ⟨o4, o5, by simp [forLoop, stands, proc]⟩
  | p :: l, row, o3, o4, o5, h, hp => by
    have hl := nodup_le n row h.1 h.2
    have e := seen_turn cf (w := w) (r := r) row (by omega) p x0 o3 o4 o5
    have hi : Inv n (if p.2 ∈ row then row else row ++ [p.2]) := proc_inv [p] row h fun q hq => hp q (by simp at hq; simp [hq])
    obtain ⟨q4, q5, e2⟩ := seen_loop cf (w := w) (r := r) hn x0 l _ o3 (some (.int p.1)) (some (.int p.2)) hi fun q hq => hp q (by simp [hq])
    refine ⟨q4, q5, ?_⟩
    simp only [List.map_cons, forLoop, stands, List.all_nil, if_true, e, Fl.turn]
    exact e2
theorem it_succ (M : List (List (Int × Int))) (b : Int) (j : Nat) : itM M b (j + 1) = if j < (itM M b j).length then proc (itM M b j) (M.getD ((itM M b j).getD j 0).toNat []) else itM M b j := rfl
theorem it_fin {m n : Nat} {b : Int} {M : List (List (Int × Int))} (h : Mach m n b M) {j : Nat} (hj : j ≤ n) (hl : (itM M b j).length ≤ j) : itM M b j = itM M b n := by
  have := it_stop hl (n - j)
  rw [show j + (n - j) = n by omega] at this
  exact this.symm
/-- the entries of the memory at a place in the row -/
theorem here {m n : Nat} {b : Int} {M : List (List (Int × Int))} (h : Mach m n b M) {j : Nat} (hj : j < (itM M b j).length) (r : Sto) (w : Int × Int × Int) :
    ∃ x l, L2.atI ((itM M b j).map D.int) (j : Int) = some (.int x) ∧ L2.atI (M.map rowD) x = some (rowD l) ∧ M.getD ((itM M b j).getD j 0).toNat [] = l ∧ (∀ p ∈ l, 0 ≤ p.2 ∧ p.2 < (n : Int)) := by
  have hx := (it_inv h j).2 (itM M b j)[j] (List.getElem_mem hj)
  obtain ⟨l, e1, e2, e3⟩ := m_row (M := M) hx.1 (by rw [h.len]; exact hx.2)
  refine ⟨(itM M b j)[j], l, L2.atI_nat (by simp [hj]), e3, ?_, h.entry e2⟩
  have e4 : (itM M b j).getD j 0 = (itM M b j)[j] := by rw [List.getD_eq_getElem?_getD, List.getElem?_eq_getElem hj]; rfl
  rw [e4, List.getD_eq_getElem?_getD, e1]
  rfl
/-- the loop over the entries of a memory, as both texts have it -/
theorem entries (cf : CallF) {m n : Nat} {b : Int} {M : List (List (Int × Int))} (h : Mach m n b M) {w : Int × Int × Int} {r : Sto} {j : Nat} (hj : j < (itM M b j).length) (rest : Ss) (o4 o5 : Option D) :
    ∃ q4 q5, evSs cf 1000 (.cons (.for_ (.tp (.cons (.nm 4) (.cons (.nm 5) .nil))) (.seq (.idx (.idx (.var 0) (.int 1)) (.idx (.var 1) (.var 3)))) seenBody) rest) [some (mD b M), some (.loc (r.length + 1)), some (.loc (r.length + 2)), some (.int (j : Int)), o4, o5] (St2 w r (itM M b j)) =
      evSs cf 1000 rest [some (mD b M), some (.loc (r.length + 1)), some (.loc (r.length + 2)), some (.int (j : Int)), q4, q5] (St2 w r (itM M b (j + 1))) := by
  obtain ⟨x, l, e1, e2, e3, hp⟩ := here h hj r w
  obtain ⟨q4, q5, e4⟩ := seen_loop cf (w := w) (r := r) (n := n) (by have := h.n9; omega) (mD b M) l (itM M b j) (some (.int (j : Int))) o4 o5 (it_inv h j) hp
  refine ⟨q4, q5, ?_⟩
  have i1 : L2.atI [D.int b, .tup (M.map rowD)] 1 = some (.tup (M.map rowD)) := rfl
  have hrow := st_row w r (itM M b j)
  have hla : lstAt (r.length + 1) (St2 w r (itM M b j)) = some ((itM M b j).map .int) := by simp only [lstAt, hrow]
  have hi : evIt cf (.seq (.idx (.idx (.var 0) (.int 1)) (.idx (.var 1) (.var 3)))) [some (mD b M), some (.loc (r.length + 1)), some (.loc (r.length + 2)), some (.int (j : Int)), o4, o5] (St2 w r (itM M b j)) = .ok ⟨l.map pr, []⟩ (St2 w r (itM M b j)) := by
    generalize (j : Int) = jj at e1 ⊢
    simp [evIt, evE, mD, idxT, dicAt, hrow, seqOf, lstOf, hla, i1, e1, e2, rowD, itemsOf]
  rw [for_then hi]
  dsimp only
  rw [e4]
  rw [it_succ, if_pos hj, e3]
  rfl
theorem ints_ints : ∀ l : List Int, intsD (l.map .int) = some l
  | [] => rfl
  | x :: l => by simp [intsD, ints_ints l]
def srt (l : List Int) : List Int := l.mergeSort fun a b => decide (a ≤ b)
theorem begun (cf : CallF) {b : Int} {M : List (List (Int × Int))} {w : Int × Int × Int} {r : Sto} : Wl w (r ++ [.lst [.int b], .dic false [([.inl b], .bl true)]]) = St2 w r (itM M b 0) := rfl
theorem st_tidy {w : Int × Int × Int} {r : Sto} (hr : Cl r) (row l : List Int) : tidy (r.length + 1) (.l (l.map .int)) (St2 w r row) = .ok (.l (l.map .int)) (Wl w r) := tidy_l hr rfl _ (under_is 0 l)
theorem st_tidyT {w : Int × Int × Int} {r : Sto} (hr : Cl r) (row l : List Int) : tidy (r.length + 1) (.v (lotD l)) (St2 w r row) = .ok (.v (lotD l)) (Wl w r) := tidy_d hr rfl _ (by simp only [lotD, D.under, under_is])
theorem come (k : Nat) {m n : Nat} {b : Int} {M : List (List (Int × Int))} (h : Mach m n b M) {w : Int × Int × Int} {r : Sto} (hr : Cl r) : run tbl 1000 (k+1) "_law_come" [mD b M] (Wl w r) = .ok (.l ((srt (itM M b n)).map .int)) (Wl w r) := by
  have hL1 : (1 : Nat) ≤ LIM := by decide
  have i0 : L2.atI [D.int b, .tup (M.map rowD)] 0 = some (.int b) := rfl
  have i1 : L2.atI [D.int b, .tup (M.map rowD)] 1 = some (.tup (M.map rowD)) := rfl
  have e8 : f__law_come = ⟨1, 6, [], .cons (.par2 1 2 (.lst (.cons (.idx (.var 0) (.int 0)) .nil)) (.dic1 (.idx (.var 0) (.int 0)) (.bl true))) (.cons (.for_ (.nm 3) (.rng (.cons (.bi .len (.cons (.idx (.var 0) (.int 1)) .nil)) .nil)) (.cons (.ite (.cmp .lt (.var 3) (.bi .len (.cons (.var 1) .nil))) (.cons (.for_ (.tp (.cons (.nm 4) (.cons (.nm 5) .nil))) (.seq (.idx (.idx (.var 0) (.int 1)) (.idx (.var 1) (.var 3)))) seenBody) .nil) .nil) .nil)) (.cons (.ret (.bi .sorted (.cons (.var 1) .nil))) .nil))⟩ := rfl
  have hF : ∀ (j : Nat) (o3 o4 o5 : Option D), ∃ q4 q5, forF (.nm 3) (evSs (run tbl 1000 k) 1000 (.cons (.ite (.cmp .lt (.var 3) (.bi .len (.cons (.var 1) .nil))) (.cons (.for_ (.tp (.cons (.nm 4) (.cons (.nm 5) .nil))) (.seq (.idx (.idx (.var 0) (.int 1)) (.idx (.var 1) (.var 3)))) seenBody) .nil) .nil) .nil)) (.int (j : Int))
      [some (mD b M), some (.loc (r.length + 1)), some (.loc (r.length + 2)), o3, o4, o5] (St2 w r (itM M b j)) = .nx [some (mD b M), some (.loc (r.length + 1)), some (.loc (r.length + 2)), some (.int (j : Int)), q4, q5] (St2 w r (itM M b (j + 1))) := fun j o3 o4 o5 => by
    have bt : bindT (.nm 3) (.int (j : Int)) [some (mD b M), some (.loc (r.length + 1)), some (.loc (r.length + 2)), o3, o4, o5] = some [some (mD b M), some (.loc (r.length + 1)), some (.loc (r.length + 2)), some (.int (j : Int)), o4, o5] := rfl
    have hrow := st_row w r (itM M b j)
    have hla : lstAt (r.length + 1) (St2 w r (itM M b j)) = some ((itM M b j).map .int) := by simp only [lstAt, hrow]
    rw [forF_ap, bt]
    dsimp only
    by_cases hj : j < (itM M b j).length
    · obtain ⟨q4, q5, e⟩ := entries (run tbl 1000 k) h (w := w) (r := r) hj .nil o4 o5
      refine ⟨q4, q5, ?_⟩
      have hj' : ((j : Int) < ((itM M b j).length : Nat)) := by omega
      generalize (j : Int) = jj at e hj' ⊢
      generalize S.for_ _ _ _ = st at e ⊢
      have e' : evSs (run tbl 1000 k) 1000 (.cons st .nil) [some (mD b M), some (.loc (r.length + 1)), some (.loc (r.length + 2)), some (.int jj), o4, o5] (St2 w r (itM M b j)) = .nx [some (mD b M), some (.loc (r.length + 1)), some (.loc (r.length + 2)), some (.int jj), q4, q5] (St2 w r (itM M b (j + 1))) := e
      generalize Ss.cons st .nil = blk at e' ⊢
      simp [evSs, evS, evE, evTs, biT, seqOf, lstOf, hla, cmpT, ordT, ordI, truth, hj', e', Fl.then]
    · refine ⟨o4, o5, ?_⟩
      rw [it_succ, if_neg hj]
      have hj' : ¬ ((j : Int) < ((itM M b j).length : Nat)) := by omega
      generalize (j : Int) = jj at hj' ⊢
      generalize S.for_ _ _ _ = st
      generalize Ss.cons st .nil = blk
      simp [evSs, evS, evE, evTs, biT, seqOf, lstOf, hla, cmpT, ordT, ordI, truth, hj', Fl.then]
  obtain ⟨ρ', s', e, o3, o4, o5, rfl, rfl⟩ := for_inv (A := fun i : Nat => D.int (i : Int)) (P := fun j ρ s => ∃ o3 o4 o5, ρ = [some (mD b M), some (.loc (r.length + 1)), some (.loc (r.length + 2)), o3, o4, o5] ∧ s = St2 w r (itM M b j)) (List.range n) 0 [some (mD b M), some (.loc (r.length + 1)), some (.loc (r.length + 2)), none, none, none] (St2 w r (itM M b 0))
    (fun j y ρ s hy ⟨o3, o4, o5, eρ, es⟩ => by
      subst es eρ
      obtain ⟨hj, ej⟩ := List.getElem?_eq_some_iff.mp hy
      simp only [List.getElem_range] at ej
      subst ej
      rw [Nat.zero_add]
      obtain ⟨q4, q5, e⟩ := hF j o3 o4 o5
      exact ⟨_, _, .inl e, _, _, _, rfl, rfl⟩) ⟨none, none, none, rfl, rfl⟩
  rw [List.length_range, Nat.zero_add] at e
  have r5 := rng0 (b := n) (by have := h.n9; omega)
  have hlen : ((M.map rowD).length : Nat) = n := by rw [List.length_map, h.len]
  have hi : evIt (run tbl 1000 k) (.rng (.cons (.bi .len (.cons (.idx (.var 0) (.int 1)) .nil)) .nil)) [some (mD b M), some (.loc (r.length + 1)), some (.loc (r.length + 2)), none, none, none] (St2 w r (itM M b 0)) = .ok ⟨(List.range n).map fun i => D.int (i : Nat), []⟩ (St2 w r (itM M b 0)) := by
    have hln : biT .len [.v (.tup (M.map rowD))] (St2 w r (itM M b 0)) = some (.v (.int (n : Int))) := by
      have : biT .len [.v (.tup (M.map rowD))] (St2 w r (itM M b 0)) = some (.v (.int ((M.map rowD).length : Nat))) := rfl
      rw [this, hlen]
    generalize (n : Int) = nn at r5 hln
    simp [evIt, evEs, evE, evTs, mD, idxT, dicAt, seqOf, i1, hln, rangeOf, r5]
  rw [run, tbl__law_come, e8]
  simp only [Fn.fill, List.append_nil, List.drop_nil, List.length_cons, List.length_nil, Nat.zero_add, if_true, List.map_cons, List.map_nil, Nat.reduceSub, Nat.reduceAdd, List.replicate, List.cons_append, List.nil_append]
  have st0 : evS (run tbl 1000 k) 1000 (.par2 1 2 (.lst (.cons (.idx (.var 0) (.int 0)) .nil)) (.dic1 (.idx (.var 0) (.int 0)) (.bl true))) [some (mD b M), none, none, none, none, none] (Wl w r) = .nx [some (mD b M), some (.loc (r.length + 1)), some (.loc (r.length + 2)), none, none, none] (St2 w r (itM M b 0)) := by
    rw [← begun (run tbl 1000 k)]
    simp [evS, evE, evEs, mD, idxT, dicAt, seqOf, i0, hL1, dicNew, dkey, dkA, Wl_len, Wl_app]
  rw [seq_nx st0, for_then hi]
  dsimp only
  rw [e]
  have hrow := st_row w r (itM M b n)
  have hla : lstAt (r.length + 1) (St2 w r (itM M b n)) = some ((itM M b n).map .int) := by simp only [lstAt, hrow]
  have hso : biT .sorted [.v (.loc (r.length + 1))] (St2 w r (itM M b n)) = some (.l ((srt (itM M b n)).map .int)) := by
    have : biT .sorted [.v (.loc (r.length + 1))] (St2 w r (itM M b n)) = ((lstOf (.v (.loc (r.length + 1))) (St2 w r (itM M b n))).bind intsD).map fun is => .l ((is.mergeSort fun a b => decide (a ≤ b)).map .int) := rfl
    rw [this]
    simp only [lstOf, hla, Option.bind_some, ints_ints, Option.map_some, srt]
  have ht := st_tidy (w := w) hr (itM M b n) (srt (itM M b n))
  simp [Fl.then, evSs, evS, evE, evTs, hso, Fl.res, Wl_len, ht]
theorem whl {c : Env → Sto → R Bool} {f : Env → Sto → Fl} {n : Nat} {ρ : Env} {s : Sto} : whileLoop c f (n + 1) ρ s = (c ρ s).fl ρ fun b s => if b then (f ρ s).turn fun ρ s => whileLoop c f n ρ s else .nx ρ s := rfl
theorem memories_of (k : Nat) {m n : Nat} {b : Int} {M : List (List (Int × Int))} (h : Mach m n b M) {w : Int × Int × Int} {r : Sto} (hr : Cl r) : run tbl 1000 (k+1) "memories_of" [mD b M] (Wl w r) = .ok (.v (lotD (srt (itM M b n)))) (Wl w r) := by
  have hL1 : (1 : Nat) ≤ LIM := by decide
  have i0 : L2.atI [D.int b, .tup (M.map rowD)] 0 = some (.int b) := rfl
  have e8 : f_memories_of = ⟨1, 6, [], .cons (.par3 1 2 3 (.lst (.cons (.idx (.var 0) (.int 0)) .nil)) (.dic1 (.idx (.var 0) (.int 0)) (.bl true)) (.int 0)) (.cons (.while_ (.cmp .lt (.var 3) (.bi .len (.cons (.var 1) .nil))) (.cons (.for_ (.tp (.cons (.nm 4) (.cons (.nm 5) .nil))) (.seq (.idx (.idx (.var 0) (.int 1)) (.idx (.var 1) (.var 3)))) seenBody) (.cons (.aug 3 .add (.int 1)) .nil))) (.cons (.ret (.bi .tuple (.cons (.bi .sorted (.cons (.var 1) .nil)) .nil))) .nil))⟩ := rfl
  have hW : ∀ (fuel j : Nat) (o4 o5 : Option D), j ≤ n → n - j < fuel → ∃ o3 q4 q5, whileLoop (whC (evE (run tbl 1000 k) (.cmp .lt (.var 3) (.bi .len (.cons (.var 1) .nil))))) (evSs (run tbl 1000 k) 1000 (.cons (.for_ (.tp (.cons (.nm 4) (.cons (.nm 5) .nil))) (.seq (.idx (.idx (.var 0) (.int 1)) (.idx (.var 1) (.var 3)))) seenBody) (.cons (.aug 3 .add (.int 1)) .nil))) fuel
      [some (mD b M), some (.loc (r.length + 1)), some (.loc (r.length + 2)), some (.int (j : Int)), o4, o5] (St2 w r (itM M b j)) = .nx [some (mD b M), some (.loc (r.length + 1)), some (.loc (r.length + 2)), o3, q4, q5] (St2 w r (itM M b n)) := by
    intro fuel
    induction fuel with
    | zero => intro j o4 o5 _ hlt; omega
    | succ fuel ih =>
      intro j o4 o5 hjn hlt
      have hrow := st_row w r (itM M b j)
      have hla : lstAt (r.length + 1) (St2 w r (itM M b j)) = some ((itM M b j).map .int) := by simp only [lstAt, hrow]
      by_cases hj : j < (itM M b j).length
      · have hlen := it_len h j
        obtain ⟨q4, q5, e⟩ := entries (run tbl 1000 k) h (w := w) (r := r) hj (.cons (.aug 3 .add (.int 1)) .nil) o4 o5
        obtain ⟨o3, p4, p5, e2⟩ := ih (j + 1) q4 q5 (by omega) (by omega)
        refine ⟨o3, p4, p5, ?_⟩
        rw [whl, ← e2]
        have hj' : ((j : Int) < ((itM M b j).length : Nat)) := by omega
        have hc : whC (evE (run tbl 1000 k) (.cmp .lt (.var 3) (.bi .len (.cons (.var 1) .nil)))) [some (mD b M), some (.loc (r.length + 1)), some (.loc (r.length + 2)), some (.int (j : Int)), o4, o5] (St2 w r (itM M b j)) = .ok true (St2 w r (itM M b j)) := by
          generalize (j : Int) = jj at hj' ⊢
          simp [whC, evE, evTs, biT, seqOf, lstOf, hla, cmpT, ordT, ordI, truth, hj']
        have hb : evSs (run tbl 1000 k) 1000 (.cons (.aug 3 .add (.int 1)) .nil) [some (mD b M), some (.loc (r.length + 1)), some (.loc (r.length + 2)), some (.int (j : Int)), q4, q5] (St2 w r (itM M b (j + 1))) = .nx [some (mD b M), some (.loc (r.length + 1)), some (.loc (r.length + 2)), some (.int ((j + 1 : Nat) : Int)), q4, q5] (St2 w r (itM M b (j + 1))) := by
          have ej : ((j + 1 : Nat) : Int) = (j : Int) + 1 := by omega
          rw [ej]
          generalize (j : Int) = jj
          simp [evSs, evS, evE, augT, Fl.then]
        simp only [hc, R.fl_ok, if_true, e, hb, Fl.turn]
      · refine ⟨some (.int (j : Int)), o4, o5, ?_⟩
        have hj' : ¬ ((j : Int) < ((itM M b j).length : Nat)) := by omega
        have hc : whC (evE (run tbl 1000 k) (.cmp .lt (.var 3) (.bi .len (.cons (.var 1) .nil)))) [some (mD b M), some (.loc (r.length + 1)), some (.loc (r.length + 2)), some (.int (j : Int)), o4, o5] (St2 w r (itM M b j)) = .ok false (St2 w r (itM M b j)) := by
          generalize (j : Int) = jj at hj' ⊢
          simp [whC, evE, evTs, biT, seqOf, lstOf, hla, cmpT, ordT, ordI, truth, hj']
        rw [whl, hc, R.fl_ok, it_fin h hjn (by omega)]
        simp
  obtain ⟨o3, q4, q5, e⟩ := hW 1000 0 none none (Nat.zero_le _) (by have := h.n9; omega)
  rw [run, tbl_memories_of, e8]
  simp only [Fn.fill, List.append_nil, List.drop_nil, List.length_cons, List.length_nil, Nat.zero_add, if_true, List.map_cons, List.map_nil, Nat.reduceSub, Nat.reduceAdd, List.replicate, List.cons_append, List.nil_append]
  have st0 : evS (run tbl 1000 k) 1000 (.par3 1 2 3 (.lst (.cons (.idx (.var 0) (.int 0)) .nil)) (.dic1 (.idx (.var 0) (.int 0)) (.bl true)) (.int 0)) [some (mD b M), none, none, none, none, none] (Wl w r) = .nx [some (mD b M), some (.loc (r.length + 1)), some (.loc (r.length + 2)), some (.int 0), none, none] (St2 w r (itM M b 0)) := by
    rw [← begun (run tbl 1000 k)]
    simp [evS, evE, evEs, mD, idxT, dicAt, seqOf, i0, hL1, dicNew, dkey, dkA, Wl_len, Wl_app]
  rw [seq_nx st0, seq_nx (ρ' := [some (mD b M), some (.loc (r.length + 1)), some (.loc (r.length + 2)), o3, q4, q5]) (s' := St2 w r (itM M b n)) (by rw [evS]; exact e)]
  have hrow := st_row w r (itM M b n)
  have hla : lstAt (r.length + 1) (St2 w r (itM M b n)) = some ((itM M b n).map .int) := by simp only [lstAt, hrow]
  have hso : biT .sorted [.v (.loc (r.length + 1))] (St2 w r (itM M b n)) = some (.l ((srt (itM M b n)).map .int)) := by
    have : biT .sorted [.v (.loc (r.length + 1))] (St2 w r (itM M b n)) = ((lstOf (.v (.loc (r.length + 1))) (St2 w r (itM M b n))).bind intsD).map fun is => .l ((is.mergeSort fun a b => decide (a ≤ b)).map .int) := rfl
    rw [this]
    simp only [lstOf, hla, Option.bind_some, ints_ints, Option.map_some, srt]
  have ht := st_tidyT (w := w) hr (itM M b n) (srt (itM M b n))
  unfold lotD at ht ⊢
  have htu : biT .tuple [.l ((srt (itM M b n)).map .int)] (St2 w r (itM M b n)) = some (.v (.tup ((srt (itM M b n)).map .int))) := rfl
  simp [Fl.then, evSs, evS, evE, evTs, hso, htu, Fl.res, Wl_len, ht]
end K61
end
section
set_option maxRecDepth 100000
set_option maxHeartbeats 1000000
set_option linter.unusedSimpArgs false
namespace K61
open Fy
open PySem (PyData)
/-! ### runs -/
def psum (l : List Int) : Int := (l.map fun i => (2 : Int) ^ i.toNat).sum
theorem psum_all : ((List.range 6).all fun m => (List.range 31).all fun j => !decide (j + 1 < 2 ^ m) || decide (psum (lotAt m (j + 1)) = (j : Int) + 1)) = true := by decide +kernel
theorem psum_lot {m j : Nat} (hm : m ≤ 5) (hj : j < 2 ^ m - 1) : psum (lotAt m (j + 1)) = (j : Int) + 1 := by
  have hp := two_pow hm
  have h := List.all_eq_true.mp (List.all_eq_true.mp psum_all m (List.mem_range.mpr (by omega))) j (List.mem_range.mpr (by omega))
  simp only [Bool.or_eq_true, Bool.not_eq_true', decide_eq_false_iff_not, decide_eq_true_eq] at h
  rcases h with h | h
  · omega
  · exact h
theorem lot_mem {m n : Nat} {x : Int} (h : x ∈ lotAt m n) : 0 ≤ x ∧ x < m := by
  simp only [lotAt, List.mem_map, List.mem_filter, List.mem_range] at h
  obtain ⟨i, ⟨h1, _⟩, rfl⟩ := h
  omega
theorem pw_int {x : Int} (h0 : 0 ≤ x) (h5 : x ≤ 5) : L2.atI pw x = some (.int ((2 : Int) ^ x.toNat)) := by
  have : x = 0 ∨ x = 1 ∨ x = 2 ∨ x = 3 ∨ x = 4 ∨ x = 5 := by omega
  rcases this with rfl | rfl | rfl | rfl | rfl | rfl <;> rfl
theorem number_at (k : Nat) {w : Int × Int × Int} {r : Sto} (hr : Cl r) (l : List Int) (h : ∀ x ∈ l, 0 ≤ x ∧ x ≤ 5) (hl : l.length ≤ 1000) : run tbl 1000 (k+1) "number_at" [lotD l] (Wl w r) = .ok (.v (.int (psum l))) (Wl w r) := by
  have ht := tidy_d0 (w := w) hr rfl (.int (psum l)) rfl
  have hlen : ([] : List D).length + l.length ≤ LIM := by rw [List.length_nil, Nat.zero_add]; exact LIM_big (by omega)
  have hlc := lc_pure (F := lcF (.nm 1) [1] [some (lotD l), none] (fun _ s => .ok true s) (evE (run tbl 1000 k) (.idx (.con "POWERS" (.tup pw)) (.var 1)))) (A := D.int) (G := fun i => some (.int ((2 : Int) ^ i.toNat))) (s := Wl w r) l [] (fun x hx => by
    have e := pw_int (h x hx).1 (h x hx).2
    simp [lcF, bindT, wipeE, evE, idxT, dicAt, seqOf, e]) hlen
  have e4 : ([] ++ l.filterMap fun i => some (D.int ((2 : Int) ^ i.toNat))) = (l.map fun i => (2 : Int) ^ i.toNat).map .int := by
    rw [List.nil_append, List.filterMap_eq_map', List.map_map]; rfl
  rw [e4] at hlc
  have hi : evIt (run tbl 1000 k) (.seq (.var 0)) [some (lotD l), none] (Wl w r) = .ok ⟨l.map .int, []⟩ (Wl w r) := by simp [evIt, evE, lotD, itemsOf]
  have hE : evE (run tbl 1000 k) (.lc [("i", 1)] (.nm 1) (.seq (.var 0)) .none (.idx (.con "POWERS" (.tup pw)) (.var 1))) [some (lotD l), none] (Wl w r) = .ok (.l ((l.map fun i => (2 : Int) ^ i.toNat).map .int)) (Wl w r) := by
    rw [evE, hi]
    exact hlc
  have hs : biT .sum [.l ((l.map fun i => (2 : Int) ^ i.toNat).map .int)] (Wl w r) = some (.v (.int (psum l))) := by
    have : biT .sum [.l ((l.map fun i => (2 : Int) ^ i.toNat).map .int)] (Wl w r) = (intsD ((l.map fun i => (2 : Int) ^ i.toNat).map .int)).map fun is => .v (.int is.sum) := rfl
    rw [this, ints_ints]
    rfl
  have e8 : f_number_at = ⟨1, 2, [], .cons (.ret (.bi .sum (.cons (.lc [("i", 1)] (.nm 1) (.seq (.var 0)) .none (.idx (.con "POWERS" (.tup pw)) (.var 1))) .nil))) .nil⟩ := rfl
  rw [run, tbl_number_at, e8]
  generalize (l.map fun i => (2 : Int) ^ i.toNat).map D.int = LL at hE hs
  generalize E.lc _ _ _ _ _ = ent at hE ⊢
  simp [Fn.fill, evSs, evS, evE, evTs, hE, hs, Fl.then, Fl.res, Wl_len, ht]
def stepF (M : List (List (Int × Int))) (st : List Int × Int) (j : Nat) : List Int × Int := (st.1 ++ [((M.getD st.2.toNat []).getD j (0, 0)).1], ((M.getD st.2.toNat []).getD j (0, 0)).2)
def foldR (M : List (List (Int × Int))) (b : Int) (js : List Nat) : List Int × Int := js.foldl (stepF M) ([], b)
theorem foldR_snoc (M : List (List (Int × Int))) (b : Int) (js : List Nat) (j : Nat) : foldR M b (js ++ [j]) = stepF M (foldR M b js) j := by simp [foldR, List.foldl_append]
theorem step_ok {m n : Nat} {b : Int} {M : List (List (Int × Int))} (h : Mach m n b M) {mem : Int} (h0 : 0 ≤ mem) (hn : mem < n) {j : Nat} (hj : j < 2 ^ m - 1) :
    ∃ row p, L2.atI (M.map rowD) mem = some (rowD row) ∧ L2.atI (row.map pr) (j : Int) = some (pr p) ∧ (M.getD mem.toNat []).getD j (0, 0) = p ∧ 0 ≤ p.2 ∧ p.2 < (n : Int) := by
  obtain ⟨row, e1, e2, e3⟩ := m_row (M := M) h0 (by rw [h.len]; exact hn)
  obtain ⟨p, e4, e5⟩ := r_at (row := row) (j := j) (by rw [h.rows row e2]; exact hj)
  refine ⟨row, p, e3, e5, ?_, (h.ent row e2 j p e4).2⟩
  have e6 : M.getD mem.toNat [] = row := by rw [List.getD_eq_getElem?_getD, e1]; rfl
  rw [e6, List.getD_eq_getElem?_getD, e4]
  rfl
theorem fold_mem {m n : Nat} {b : Int} {M : List (List (Int × Int))} (h : Mach m n b M) : ∀ js : List Nat, (∀ j ∈ js, j < 2 ^ m - 1) → 0 ≤ (foldR M b js).2 ∧ (foldR M b js).2 < n := by
  have key : ∀ (js : List Nat) (st : List Int × Int), 0 ≤ st.2 → st.2 < n → (∀ j ∈ js, j < 2 ^ m - 1) → 0 ≤ (js.foldl (stepF M) st).2 ∧ (js.foldl (stepF M) st).2 < n := by
    intro js
    induction js with
    | nil => intro st h0 h1 _; exact ⟨h0, h1⟩
    | cons j js ih =>
      intro st h0 h1 hj
      obtain ⟨row, p, _, _, e, hp⟩ := step_ok h h0 h1 (hj j (by simp))
      refine ih (stepF M st j) ?_ ?_ fun i hi => hj i (by simp [hi])
      · unfold stepF; rw [e]; exact hp.1
      · unfold stepF; rw [e]; exact hp.2
  exact fun js hj => key js ([], b) h.b0 h.bn hj
theorem fold_len (M : List (List (Int × Int))) (b : Int) (js : List Nat) : (foldR M b js).1.length = js.length := by
  have key : ∀ (js : List Nat) (st : List Int × Int), (js.foldl (stepF M) st).1.length = st.1.length + js.length := by
    intro js
    induction js with
    | nil => intro st; simp
    | cons j js ih => intro st; rw [List.foldl_cons, ih]; simp [stepF]; omega
  simpa [foldR] using key js ([], b)
def lotJ (m : Nat) (j : Nat) : D := lotD (lotAt m (j + 1))
def outD (p : List Int × Int) : D := .tup [.tup (p.1.map .int), .int p.2]
theorem lot_le {m n : Nat} : (lotAt m n).length ≤ m := by
  unfold lotAt
  rw [List.length_map]
  exact Nat.le_trans (List.length_filter_le _ _) (by simp)
theorem run_by (k : Nat) {m n : Nat} {b : Int} {M : List (List (Int × Int))} (h : Mach m n b M) (hm : m ≤ 5) {w : Int × Int × Int} {r : Sto} (hr : Cl r) (js : List Nat) (hj : ∀ j ∈ js, j < 2 ^ m - 1) (hl : js.length ≤ 1000) :
    run tbl 1000 (k+2) "run_by" [mD b M, .tup (js.map (lotJ m))] (Wl w r) = .ok (.v (outD (foldR M b js))) (Wl w r) := by
  have hL0 : (0 : Nat) ≤ LIM := by decide
  have hL2 : (2 : Nat) ≤ LIM := by decide
  have i0 : L2.atI [D.int b, .tup (M.map rowD)] 0 = some (.int b) := rfl
  have i1 : L2.atI [D.int b, .tup (M.map rowD)] 1 = some (.tup (M.map rowD)) := rfl
  obtain ⟨ρ', s', e, o4, o5, rfl, rfl⟩ := for_inv (F := forF (.nm 4) (evSs (run tbl 1000 (k+1)) 1000 (forB (nth f_run_by.body 1)))) (A := lotJ m)
    (P := fun i ρ s => ∃ o4 o5, ρ = [some (mD b M), some (.tup (js.map (lotJ m))), some (.int (foldR M b (js.take i)).2), some (.loc (r.length + 1)), o4, o5] ∧ s = Wl w (r ++ [.lst ((foldR M b (js.take i)).1.map .int)])) js 0
    [some (mD b M), some (.tup (js.map (lotJ m))), some (.int b), some (.loc (r.length + 1)), none, none] (Wl w (r ++ [.lst []]))
    (fun i j ρ s hy ⟨o4, o5, eρ, es⟩ => by
      subst es eρ
      rw [Nat.zero_add]
      have hij := List.getElem?_eq_some_iff.mp hy
      obtain ⟨hi, ej⟩ := hij
      have hjm : j ∈ js := ej ▸ List.getElem_mem hi
      have htk : js.take (i + 1) = js.take i ++ [j] := by rw [List.take_add_one, hy]; rfl
      have hfm := fold_mem h (js.take i) fun x hx => hj x (List.mem_of_mem_take hx)
      have hfl := fold_len M b (js.take i)
      rw [htk, foldR_snoc]
      generalize foldR M b (js.take i) = st at hfm hfl ⊢
      obtain ⟨row, p, e1, e2, e3, e4⟩ := step_ok h hfm.1 hfm.2 (hj j hjm)
      have hna := number_at k (w := w) (r := r ++ [.lst (st.1.map .int)]) (hr.snoc (by simp only [O.under]; exact under_is _ _)) (lotAt m (j + 1)) (fun x hx => by have := lot_mem hx; omega) (by have := lot_le (m := m) (n := j + 1); omega)
      rw [psum_lot hm (hj j hjm)] at hna
      have hst : stepF M st j = (st.1 ++ [p.1], p.2) := by unfold stepF; rw [e3]
      rw [hst]
      have hlen : st.1.length < LIM := LIM_lt (by rw [hfl, List.length_take]; omega)
      refine ⟨[some (mD b M), some (.tup (js.map (lotJ m))), some (.int p.2), some (.loc (r.length + 1)), some (lotJ m j), some (.int p.1)], Wl w (r ++ [.lst ((st.1 ++ [p.1]).map .int)]), .inl ?_, _, _, rfl, rfl⟩
      have bt : bindT (.nm 4) (lotJ m j) [some (mD b M), some (.tup (js.map (lotJ m))), some (.int st.2), some (.loc (r.length + 1)), o4, o5] = some [some (mD b M), some (.tup (js.map (lotJ m))), some (.int st.2), some (.loc (r.length + 1)), some (lotJ m j), o5] := rfl
      have bt2 : bindT (.tp (.cons (.nm 5) (.cons (.nm 2) .nil))) (pr p) [some (mD b M), some (.tup (js.map (lotJ m))), some (.int st.2), some (.loc (r.length + 1)), some (lotJ m j), o5] = some [some (mD b M), some (.tup (js.map (lotJ m))), some (.int p.2), some (.loc (r.length + 1)), some (lotJ m j), some (.int p.1)] := rfl
      have ej1 : (j : Int) + 1 - 1 = (j : Int) := by omega
      have hs1 : (Wl w (r ++ [.lst (st.1.map .int)]))[r.length + 1]? = some (.lst (st.1.map .int)) := by rw [Wl_s]; simp
      have hls : isLst (.v (.loc (r.length + 1))) (Wl w (r ++ [.lst (st.1.map .int)])) = some (.v (.loc (r.length + 1))) := by simp only [isLst, lstOf, lstAt, hs1, Option.map_some]
      have hap : appT (.v (.loc (r.length + 1))) [.int p.1] (Wl w (r ++ [.lst (st.1.map .int)])) = .ok (.v .non) (Wl w (r ++ [.lst ((st.1 ++ [p.1]).map .int)])) := by
        have e : (st.1.map D.int) ++ [D.int p.1] = (st.1 ++ [p.1]).map .int := by simp
        simp only [appT, hs1, List.length_map, hlen, if_true, e]
        congr 1
        unfold Wl
        simp [List.set_cons_succ, List.set_append]
      rw [forF_ap, bt]
      simp only [f_run_by, nth, forB]
      unfold lotJ at *
      generalize lotD (lotAt m (j + 1)) = LD at *
      generalize (js.map fun j => lotD (lotAt m (j + 1))) = LJ at *
      generalize (j : Int) = jj at *
      generalize Wl w (r ++ [.lst (st.1.map .int)]) = S at *
      have hE : evE (run tbl 1000 (k+1)) (.idx (.idx (.idx (.var 0) (.int 1)) (.var 2)) (.bin .sub (.call "number_at" (.cons (.var 4) .nil)) (.int 1))) [some (mD b M), some (.tup LJ), some (.int st.2), some (.loc (r.length + 1)), some LD, o5] S = .ok (.v (pr p)) S := by
        simp [evE, evEs, mD, idxT, dicAt, seqOf, i1, e1, rowD, e2, hna, binT, ej1]
      generalize E.idx _ (E.bin _ _ _) = ent at hE ⊢
      rw [seq_nx (ρ' := [some (mD b M), some (.tup LJ), some (.int p.2), some (.loc (r.length + 1)), some LD, some (.int p.1)]) (s' := S) (by
        simp only [evS, hE, R.fl_ok, keepR_v, bt2])]
      simp [evSs, evS, evE, evEs, hls, hap, Fl.then]) ⟨none, none, rfl, rfl⟩
  rw [Nat.zero_add, List.take_of_length_le (Nat.le_refl _)] at e
  have e8 : f_run_by = ⟨2, 6, [], .cons (.par2 2 3 (.idx (.var 0) (.int 0)) (.lst .nil)) (.cons (.for_ (.nm 4) (.seq (.var 1)) (forB (nth f_run_by.body 1))) (.cons (.ret (.tup (.cons (.bi .tuple (.cons (.var 3) .nil)) (.cons (.var 2) .nil)))) .nil))⟩ := rfl
  rw [run, tbl_run_by, e8]
  simp only [Fn.fill, List.append_nil, List.drop_nil, List.length_cons, List.length_nil, Nat.zero_add, if_true, List.map_cons, List.map_nil, Nat.reduceSub, Nat.reduceAdd, List.replicate, List.cons_append, List.nil_append]
  have st0 : evS (run tbl 1000 (k+1)) 1000 (.par2 2 3 (.idx (.var 0) (.int 0)) (.lst .nil)) [some (mD b M), some (.tup (js.map (lotJ m))), none, none, none, none] (Wl w r) = .nx [some (mD b M), some (.tup (js.map (lotJ m))), some (.int b), some (.loc (r.length + 1)), none, none] (Wl w (r ++ [.lst []])) := by
    simp [evS, evE, evEs, mD, idxT, dicAt, seqOf, i0, hL0, Wl_len, Wl_app]
  have hi : evIt (run tbl 1000 (k+1)) (.seq (.var 1)) [some (mD b M), some (.tup (js.map (lotJ m))), some (.int b), some (.loc (r.length + 1)), none, none] (Wl w (r ++ [.lst []])) = .ok ⟨js.map (lotJ m), []⟩ (Wl w (r ++ [.lst []])) := by simp [evIt, evE, itemsOf]
  rw [seq_nx st0, for_then hi]
  dsimp only
  rw [e]
  have ht := tidy_d (w := w) (x := [.lst ((foldR M b js).1.map .int)]) hr rfl (outD (foldR M b js)) (by simp only [outD, D.under, D.unders, under_is, Bool.and_self])
  have hs1 : (Wl w (r ++ [.lst ((foldR M b js).1.map .int)]))[r.length + 1]? = some (.lst ((foldR M b js).1.map .int)) := by rw [Wl_s]; simp
  have htu : biT .tuple [.v (.loc (r.length + 1))] (Wl w (r ++ [.lst ((foldR M b js).1.map .int)])) = some (.v (.tup ((foldR M b js).1.map .int))) := by
    simp only [biT, seqOf, lstOf, lstAt, hs1, Option.map_some]
  unfold outD at ht ⊢
  simp [Fl.then, evSs, evS, evE, evEs, evTs, htu, hL2, Fl.res, Wl_len, ht]
end K61
end
section
set_option maxRecDepth 100000
set_option maxHeartbeats 1000000
set_option linter.unusedSimpArgs false
namespace K61
open Fy
open PySem (PyData)
/-! ### drawn machines -/
theorem lc_draw {α : Type} {F : D → Sto → R (Option D)} {A : α → D} {R : Sto} {src : List (Nat × List D)} {P : Nat → D → Prop} {c : Int} (hc : 0 ≤ c) (hs : ∀ w, stands src (Wl w R) = true) : ∀ (ys : List α) (i : Nat) (acc : List D) (n : Int) (w : Int × Int × Int),
    (∀ j y n w, ys[j]? = some y → Ok n w → n + c ≤ 1000000000 → ∃ d w', P (i + j) d ∧ Ok (n + c) w' ∧ F (A y) (Wl w R) = .ok (some d) (Wl w' R)) → Ok n w → n + c * ys.length ≤ 1000000000 → acc.length + ys.length ≤ LIM →
    ∃ ds w', ds.length = ys.length ∧ (∀ j d, ds[j]? = some d → P (i + j) d) ∧ Ok (n + c * ys.length) w' ∧ lcLoop F src (ys.map A) acc (Wl w R) = .ok (.l (acc ++ ds)) (Wl w' R)
  | [], i, acc, n, w, _, h, _, _ => ⟨[], w, rfl, by simp, by simpa using h, by simp [lcLoop, hs]⟩
  | y :: ys, i, acc, n, w, hF, h, hn, hl => by
    simp only [List.length_cons, Int.natCast_add, Int.natCast_one, Int.mul_add, Int.mul_one] at hn hl
    have hx : 0 ≤ c * (ys.length : Int) := Int.mul_nonneg hc (Int.natCast_nonneg _)
    obtain ⟨d, w1, p1, o1, e1⟩ := hF 0 y n w rfl h (by omega)
    obtain ⟨ds, w2, l2, p2, o2, e2⟩ := lc_draw hc hs ys (i + 1) (acc ++ [d]) (n + c) w1 (fun j y n w hy => by
      have := hF (j + 1) y n w (by simpa using hy)
      rw [show i + 1 + j = i + (j + 1) by omega]
      exact this) o1 (by omega) (by simp; omega)
    refine ⟨d :: ds, w2, by simp [l2], fun j q hq => ?_, ?_, ?_⟩
    · cases j with
      | zero =>
        have : d = q := by simpa using hq
        subst this
        exact p1
      | succ j =>
        have := p2 j q (by simpa using hq)
        rw [show i + (j + 1) = i + 1 + j by omega]
        exact this
    · simp only [List.length_cons, Int.natCast_add, Int.natCast_one, Int.mul_add, Int.mul_one]
      have : n + (c * (ys.length : Int) + c) = n + c + c * (ys.length : Int) := by omega
      rw [this]
      exact o2
    · have hlt : acc.length < LIM := by omega
      simp [lcLoop, hs, e1, hlt, e2]
theorem lots_len (m : Nat) : (lots m).length = 2 ^ m - 1 := by simp [lots]
theorem lots_get {m j : Nat} {l : List Int} (h : (lots m)[j]? = some l) : l = lotAt m (j + 1) ∧ j < 2 ^ m - 1 := by
  obtain ⟨hj, e⟩ := List.getElem?_eq_some_iff.mp h
  rw [lots_len] at hj
  refine ⟨?_, hj⟩
  rw [← e]
  simp [lots]
theorem lot_pos_all : ((List.range 6).all fun m => (List.range 31).all fun j => !decide (j + 1 < 2 ^ m) || decide (0 < (lotAt m (j + 1)).length)) = true := by decide +kernel
theorem lot_pos {m j : Nat} (hm : m ≤ 5) (hj : j < 2 ^ m - 1) : 0 < (lotAt m (j + 1)).length := by
  have hp := two_pow hm
  have h := List.all_eq_true.mp (List.all_eq_true.mp lot_pos_all m (List.mem_range.mpr (by omega))) j (List.mem_range.mpr (by omega))
  simp only [Bool.or_eq_true, Bool.not_eq_true', decide_eq_false_iff_not, decide_eq_true_eq] at h
  rcases h with h | h
  · omega
  · exact h
def entOk (m n : Nat) (j : Nat) (p : Int × Int) : Prop := p.1 ∈ lotAt m (j + 1) ∧ 0 ≤ p.2 ∧ p.2 < (n : Int)
theorem prs_of {Q : Nat → Int × Int → Prop} : ∀ {ds : List D} {i : Nat}, (∀ j d, ds[j]? = some d → ∃ p, d = pr p ∧ Q (i + j) p) → ∃ ps : List (Int × Int), ds = ps.map pr ∧ ∀ j p, ps[j]? = some p → Q (i + j) p
  | [], i, _ => ⟨[], rfl, by simp⟩
  | d :: ds, i, h => by
    obtain ⟨p, rfl, h1⟩ := h 0 d rfl
    obtain ⟨ps, rfl, h2⟩ := prs_of (ds := ds) (i := i + 1) fun j d hd => by
      have := h (j + 1) d (by simpa using hd)
      rw [show i + 1 + j = i + (j + 1) by omega]
      exact this
    refine ⟨p :: ps, rfl, fun j q hq => ?_⟩
    cases j with
    | zero =>
      have : p = q := by simpa using hq
      subst this
      exact h1
    | succ j =>
      have := h2 j q (by simpa using hq)
      rw [show i + (j + 1) = i + 1 + j by omega]
      exact this
def entE : E := .tup (.cons (.idx (.var 6) (.bin .mod (.bi .int (.cons (.bin .add (.var 5) (.call "_law_dip" (.cons (.var 0) (.cons (.int 2) .nil)))) .nil)) (.bi .len (.cons (.var 6) .nil)))) (.cons (.bin .mod (.bi .int (.cons (.bin .add (.var 5) (.call "_law_dip" (.cons (.var 0) (.cons (.int 3) .nil)))) .nil)) (.var 2)) .nil))
theorem ent_turn (k : Nat) {m n : Nat} (hm : m ≤ 5) (hn1 : 1 ≤ n) {R : Sto} (hR : Cl R) {mem : Int} (h0 : 0 ≤ mem) {j : Nat} (hj : j < 2 ^ m - 1) {c : Int} {w : Int × Int × Int} (hw : Ok c w) (hc : c + 2 ≤ 1000000000) (x1 : D) (x3 x4 : D) (o6 : Option D) :
    ∃ d w', (∃ p, d = pr p ∧ entOk m n j p) ∧ Ok (c + 2) w' ∧ lcF (.nm 6) [6] [some (.loc 0), some x1, some (.int (n : Int)), some x3, some x4, some (.int mem), o6] (fun _ s => .ok true s) (evE (run tbl 1000 (k+1)) entE) (lotD (lotAt m (j + 1))) (Wl w R) = .ok (some d) (Wl w' R) := by
  have hL2 : (2 : Nat) ≤ LIM := by decide
  obtain ⟨d1, w1, a1, b1, o1, e1⟩ := dip k (m := 2) hw (by omega) (by decide) (by decide) hR
  obtain ⟨d2, w2, a2, b2, o2, e2⟩ := dip k (m := 3) o1 (by omega) (by decide) (by decide) hR
  have hlp := lot_pos hm hj
  generalize hlot : lotAt m (j + 1) = lot at hlp
  have q1 := Int.emod_nonneg (mem + d1) (show (lot.length : Int) ≠ 0 by omega)
  have q2 := Int.emod_lt_of_pos (mem + d1) (show (0 : Int) < (lot.length : Int) by omega)
  obtain ⟨i, hi⟩ := Int.eq_ofNat_of_zero_le q1
  have hil : i < lot.length := by omega
  have hat : L2.atI (lot.map D.int) (i : Int) = some (.int lot[i]) := L2.atI_nat (by simp [hil])
  have hpos : (0 : Int) < (lot.length : Int) := by omega
  have hpn : (0 : Int) < (n : Int) := by omega
  have r1 := Int.emod_nonneg (mem + d2) (show (n : Int) ≠ 0 by omega)
  have r2 := Int.emod_lt_of_pos (mem + d2) hpn
  refine ⟨pr (lot[i], (mem + d2) % (n : Int)), w2, ⟨_, rfl, by rw [hlot]; exact List.getElem_mem hil, r1, r2⟩, o2.le (by omega) hc, ?_⟩
  have hln : biT .len [.v (lotD lot)] (Wl w1 R) = some (.v (.int (lot.length : Int))) := by simp [biT, lotD, seqOf]
  have hix : idxT (.v (lotD lot)) (.v (.int ((mem + d1) % (lot.length : Int)))) (Wl w1 R) = some (.v (.int lot[i])) := by
    rw [hi]
    have : idxT (.v (lotD lot)) (.v (.int (i : Int))) (Wl w1 R) = (L2.atI (lot.map D.int) (i : Int)).map .v := rfl
    rw [this, hat]
    rfl
  have hm1 : binT .mod (.v (.int (mem + d1))) (.v (.int (lot.length : Int))) (Wl w1 R) = some (.v (.int ((mem + d1) % (lot.length : Int)))) := by simp only [binT, hpos, if_true]
  have hm2 : binT .mod (.v (.int (mem + d2))) (.v (.int (n : Int))) (Wl w2 R) = some (.v (.int ((mem + d2) % (n : Int)))) := by simp only [binT, hpn, if_true]
  have hi1 : ∀ (x : Int) s, biT .int [.v (.int x)] s = some (.v (.int x)) := fun _ _ => rfl
  have ha1 : ∀ (x y : Int) s, binT .add (.v (.int x)) (.v (.int y)) s = some (.v (.int (x + y))) := fun _ _ _ => rfl
  generalize lotD lot = LD at hln hix ⊢
  generalize (mem + d1) % (lot.length : Int) = z1 at hix hm1
  generalize (lot.length : Int) = ll at hln hm1
  generalize (mem + d2) % (n : Int) = z2 at hm2 ⊢
  generalize (n : Int) = nn at hm2 ⊢
  simp [entE, lcF, bindT, wipeE, evE, evEs, evTs, e1, e2, hln, hix, hm1, hm2, hi1, ha1, hL2, pr]
structure MRow (m n : Nat) (row : List (Int × Int)) : Prop where
  len : row.length = 2 ^ m - 1
  ent : ∀ j p, row[j]? = some p → entOk m n j p
theorem mem_turn2 (k : Nat) {m n : Nat} (h1 : 1 ≤ m) (hm : m ≤ 5) (hn1 : 1 ≤ n) {r : Sto} (hr : Cl r) {M : List (List (Int × Int))} (hM : M.length ≤ 100) {mem : Int} (h0 : 0 ≤ mem) {c : Int} {w : Int × Int × Int} (hw : Ok c w) (hc : c + 70 ≤ 1000000000) (x1 : D) (o5 o6 : Option D) :
    ∃ row w', MRow m n row ∧ Ok (c + 70) w' ∧ forF (.nm 5) (evSs (run tbl 1000 (k+1)) 1000 (forB (nth f__law_machine.body 1))) (.int mem) [some (.loc 0), some x1, some (.int (n : Int)), some (.loc (r.length + 1)), some (.loc (r.length + 2)), o5, o6] (Wl w (r ++ [.lst (lotsD m), .lst (M.map rowD)])) =
      .nx [some (.loc 0), some x1, some (.int (n : Int)), some (.loc (r.length + 1)), some (.loc (r.length + 2)), some (.int mem), o6] (Wl w' (r ++ [.lst (lotsD m), .lst ((M ++ [row]).map rowD)])) := by
  have hR : Cl (r ++ [.lst (lotsD m), .lst (M.map rowD)]) := by
    have e : r ++ [O.lst (lotsD m), .lst (M.map rowD)] = (r ++ [.lst (lotsD m)]) ++ [.lst (M.map rowD)] := by simp
    rw [e]
    exact (hr.snoc (by simp only [O.under]; exact unders_le (Nat.zero_le _) _ (under_lots _))).snoc (by simp only [O.under]; exact under_rows _ _)
  have hs1 : ∀ w, (Wl w (r ++ [.lst (lotsD m), .lst (M.map rowD)]))[r.length + 1]? = some (.lst (lotsD m)) := fun w => by rw [Wl_s]; simp
  have hs2 : ∀ w, (Wl w (r ++ [.lst (lotsD m), .lst (M.map rowD)]))[r.length + 2]? = some (.lst (M.map rowD)) := fun w => by rw [Wl_s]; simp
  have hla : ∀ w, lstAt (r.length + 1) (Wl w (r ++ [.lst (lotsD m), .lst (M.map rowD)])) = some (lotsD m) := fun w => by simp only [lstAt, hs1]
  have hst : ∀ w, stands [(r.length + 1, lotsD m)] (Wl w (r ++ [.lst (lotsD m), .lst (M.map rowD)])) = true := fun w => by simp [stands, hla]
  have hp := two_pow hm
  obtain ⟨ds, w', l1, l2, o1, e⟩ := lc_draw (F := lcF (.nm 6) [6] [some (.loc 0), some x1, some (.int (n : Int)), some (.loc (r.length + 1)), some (.loc (r.length + 2)), some (.int mem), o6] (fun _ s => .ok true s) (evE (run tbl 1000 (k+1)) entE)) (A := lotD) (P := fun j d => ∃ p, d = pr p ∧ entOk m n j p) (c := 2) (by decide) hst (lots m) 0 [] c w
    (fun j y c w hy hw hc => by
      obtain ⟨rfl, hj⟩ := lots_get hy
      rw [Nat.zero_add]
      exact ent_turn k hm hn1 hR h0 hj hw hc x1 _ _ o6) hw (by rw [lots_len]; omega) (by rw [lots_len, List.length_nil, Nat.zero_add]; exact LIM_big (by omega))
  obtain ⟨row, rfl, hq⟩ := prs_of (Q := fun j p => entOk m n j p) (i := 0) l2
  rw [List.length_map, lots_len] at l1
  rw [lots_len] at o1
  refine ⟨row, w', ⟨l1, fun j p hp => by have := hq j p hp; rwa [Nat.zero_add] at this⟩, o1.le (by omega) hc, ?_⟩
  have bt : bindT (.nm 5) (.int mem) [some (.loc 0), some x1, some (.int (n : Int)), some (.loc (r.length + 1)), some (.loc (r.length + 2)), o5, o6] = some [some (.loc 0), some x1, some (.int (n : Int)), some (.loc (r.length + 1)), some (.loc (r.length + 2)), some (.int mem), o6] := rfl
  rw [forF_ap, bt]
  have e9 : forB (nth f__law_machine.body 1) = .cons (.expr (.app (.var 4) (.cons (.bi .tuple (.cons (.lc [("lot", 6)] (.nm 6) (.seq (.var 3)) .none entE) .nil)) .nil))) .nil := rfl
  rw [e9]
  dsimp only
  have hi : evIt (run tbl 1000 (k+1)) (.seq (.var 3)) [some (.loc 0), some x1, some (.int (n : Int)), some (.loc (r.length + 1)), some (.loc (r.length + 2)), some (.int mem), o6] (Wl w (r ++ [.lst (lotsD m), .lst (M.map rowD)])) = .ok ⟨(lots m).map lotD, [(r.length + 1, lotsD m)]⟩ (Wl w (r ++ [.lst (lotsD m), .lst (M.map rowD)])) := by
    have := hla w
    simp [evIt, evE, itemsOf, this]
    rfl
  have hE : evE (run tbl 1000 (k+1)) (.lc [("lot", 6)] (.nm 6) (.seq (.var 3)) .none entE) [some (.loc 0), some x1, some (.int (n : Int)), some (.loc (r.length + 1)), some (.loc (r.length + 2)), some (.int mem), o6] (Wl w (r ++ [.lst (lotsD m), .lst (M.map rowD)])) = .ok (.l (row.map pr)) (Wl w' (r ++ [.lst (lotsD m), .lst (M.map rowD)])) := by
    rw [evE, hi]
    exact e
  have hap : appT (.v (.loc (r.length + 2))) [rowD row] (Wl w' (r ++ [.lst (lotsD m), .lst (M.map rowD)])) = .ok (.v .non) (Wl w' (r ++ [.lst (lotsD m), .lst ((M ++ [row]).map rowD)])) := by
    have hlt : M.length < LIM := LIM_lt (by omega)
    have e : (M.map rowD) ++ [rowD row] = (M ++ [row]).map rowD := by simp
    simp only [appT, hs2, List.length_map, hlt, if_true, e]
    congr 1
    unfold Wl
    simp [List.set_cons_succ, List.set_append]
  have hls : isLst (.v (.loc (r.length + 2))) (Wl w (r ++ [.lst (lotsD m), .lst (M.map rowD)])) = some (.v (.loc (r.length + 2))) := by simp only [isLst, lstOf, lstAt, hs2, Option.map_some]
  have htu : ∀ s, biT .tuple [.l (row.map pr)] s = some (.v (rowD row)) := fun _ => rfl
  generalize E.lc _ _ _ _ _ = ent at hE ⊢
  generalize Wl w (r ++ [.lst (lotsD m), .lst (M.map rowD)]) = S0 at hE hls ⊢
  generalize Wl w' (r ++ [.lst (lotsD m), .lst (M.map rowD)]) = S1 at hE hap ⊢
  generalize (n : Int) = nn at hE ⊢
  simp [evSs, evS, evE, evEs, evTs, hE, hls, hap, htu, Fl.then]
theorem law_machine (k : Nat) {m n : Nat} (h1 : 1 ≤ m) (hm : m ≤ 5) (hn1 : 1 ≤ n) (hn9 : n ≤ 9) {r : Sto} (hr : Cl r) {c : Int} {w : Int × Int × Int} (hw : Ok c w) (hc : c + 1000 ≤ 1000000000) :
    ∃ b M w', Mach m n b M ∧ Ok (c + 1000) w' ∧ run tbl 1000 (k+2) "_law_machine" [.loc 0, .int (m : Int), .int (n : Int)] (Wl w r) = .ok (.v (mD b M)) (Wl w' r) := by
  have hL0 : (0 : Nat) ≤ LIM := by decide
  have hL2 : (2 : Nat) ≤ LIM := by decide
  have hl := law_lots k (w := w) hr h1 hm
  obtain ⟨ρ', s', e, w1, M, o5, o6, hM, hMr, ho, rfl, rfl⟩ := for_inv (F := forF (.nm 5) (evSs (run tbl 1000 (k+1)) 1000 (forB (nth f__law_machine.body 1)))) (A := fun i : Nat => D.int (i : Int))
    (P := fun i ρ s => ∃ w' M o5 o6, M.length = i ∧ (∀ row ∈ M, MRow m n row) ∧ Ok (c + 70 * (i : Int)) w' ∧ ρ = [some (.loc 0), some (.int (m : Int)), some (.int (n : Int)), some (.loc (r.length + 1)), some (.loc (r.length + 2)), o5, o6] ∧ s = Wl w' (r ++ [.lst (lotsD m), .lst (M.map rowD)])) (List.range n) 0
    [some (.loc 0), some (.int (m : Int)), some (.int (n : Int)), some (.loc (r.length + 1)), some (.loc (r.length + 2)), none, none] (Wl w (r ++ [.lst (lotsD m), .lst []]))
    (fun i y ρ s hy ⟨w', M, o5, o6, hM, hMr, ho, eρ, es⟩ => by
      subst es eρ
      obtain ⟨hi, ej⟩ := List.getElem?_eq_some_iff.mp hy
      simp only [List.length_range] at hi
      simp only [List.getElem_range] at ej
      subst ej
      rw [Nat.zero_add] at hM ho ⊢
      obtain ⟨row, w2, h2, o2, e2⟩ := mem_turn2 k h1 hm hn1 hr (M := M) (by omega) (mem := (i : Int)) (by omega) ho (by omega) (.int (m : Int)) o5 o6
      refine ⟨_, _, .inl e2, w2, M ++ [row], _, _, by simp [hM], ?_, ?_, rfl, rfl⟩
      · intro q hq
        rcases List.mem_append.mp hq with hq | hq
        · exact hMr q hq
        · have : q = row := by simpa using hq
          subst this
          exact h2
      · exact o2.le (by omega) (by omega)) ⟨w, [], none, none, rfl, by simp, by simpa using hw, rfl, rfl⟩
  rw [List.length_range, Nat.zero_add] at hM ho
  obtain ⟨b, w2, b0, bn, o2, eb⟩ := dip k (m := (n : Int)) (r := r ++ [.lst (lotsD m), .lst (M.map rowD)]) ho (by omega) (by omega) (by omega) (by
    have e : r ++ [O.lst (lotsD m), .lst (M.map rowD)] = (r ++ [.lst (lotsD m)]) ++ [.lst (M.map rowD)] := by simp
    rw [e]
    exact (hr.snoc (by simp only [O.under]; exact unders_le (Nat.zero_le _) _ (under_lots _))).snoc (by simp only [O.under]; exact under_rows _ _))
  refine ⟨b, M, w2, ⟨hn1, hn9, hM, b0, bn, fun row hrow => (hMr row hrow).len, fun row hrow => (hMr row hrow).ent⟩, o2.le (by omega) hc, ?_⟩
  have r5 := rng0 (b := n) (by omega)
  have e8 : f__law_machine = ⟨3, 7, [], .cons (.par2 3 4 (.call "_law_lots" (.cons (.var 1) .nil)) (.lst .nil)) (.cons (.for_ (.nm 5) (.rng (.cons (.var 2) .nil)) (forB (nth f__law_machine.body 1))) (.cons (.ret (.tup (.cons (.call "_law_dip" (.cons (.var 0) (.cons (.var 2) .nil))) (.cons (.bi .tuple (.cons (.var 4) .nil)) .nil)))) .nil))⟩ := rfl
  have hi : evIt (run tbl 1000 (k+1)) (.rng (.cons (.var 2) .nil)) [some (.loc 0), some (.int (m : Int)), some (.int (n : Int)), some (.loc (r.length + 1)), some (.loc (r.length + 2)), none, none] (Wl w (r ++ [.lst (lotsD m), .lst []])) = .ok ⟨(List.range n).map fun i => D.int (i : Nat), []⟩ (Wl w (r ++ [.lst (lotsD m), .lst []])) := by
    generalize (n : Int) = nn at r5 ⊢
    simp [evIt, evEs, evE, rangeOf, r5]
  rw [run, tbl__law_machine, e8]
  simp only [Fn.fill, List.append_nil, List.drop_nil, List.length_cons, List.length_nil, Nat.zero_add, if_true, List.map_cons, List.map_nil, Nat.reduceSub, Nat.reduceAdd, List.replicate, List.cons_append, List.nil_append]
  have st0 : evS (run tbl 1000 (k+1)) 1000 (.par2 3 4 (.call "_law_lots" (.cons (.var 1) .nil)) (.lst .nil)) [some (.loc 0), some (.int (m : Int)), some (.int (n : Int)), none, none, none, none] (Wl w r) = .nx [some (.loc 0), some (.int (m : Int)), some (.int (n : Int)), some (.loc (r.length + 1)), some (.loc (r.length + 2)), none, none] (Wl w (r ++ [.lst (lotsD m), .lst []])) := by
    generalize (m : Int) = mm at hl ⊢
    generalize (n : Int) = nn
    simp [evS, evE, evEs, hl, hL0, Wl_len, Wl_app]
  rw [seq_nx st0, for_then hi]
  dsimp only
  rw [e]
  have ht := tidy_d (w := w2) (x := [.lst (lotsD m), .lst (M.map rowD)]) hr rfl (mD b M) (under_mD _ _ _)
  have hs2 : (Wl w2 (r ++ [.lst (lotsD m), .lst (M.map rowD)]))[r.length + 2]? = some (.lst (M.map rowD)) := by rw [Wl_s]; simp
  have htu : biT .tuple [.v (.loc (r.length + 2))] (Wl w2 (r ++ [.lst (lotsD m), .lst (M.map rowD)])) = some (.v (.tup (M.map rowD))) := by
    simp only [biT, seqOf, lstOf, lstAt, hs2, Option.map_some]
  unfold mD at ht ⊢
  generalize Wl w1 (r ++ [.lst (lotsD m), .lst (M.map rowD)]) = S1 at eb ⊢
  generalize Wl w2 (r ++ [.lst (lotsD m), .lst (M.map rowD)]) = S2 at eb ht htu ⊢
  generalize (m : Int) = mm
  generalize (n : Int) = nn at eb ⊢
  simp [Fl.then, evSs, evS, evE, evEs, evTs, eb, htu, hL2, Fl.res, Wl_len, ht]
end K61
end
section
set_option maxRecDepth 100000
set_option maxHeartbeats 1000000
set_option linter.unusedSimpArgs false
namespace K61
open Fy
open PySem (PyData)
/-! ### values with one part of a wrong sort -/
def IT : Nat → D → Prop
  | 0, d => ∃ i, d = .int i
  | h + 1, d => IT h d ∨ ∃ xs, d = .tup xs ∧ xs ≠ [] ∧ xs.length < 50000 ∧ ∀ x ∈ xs, IT h x
theorem it_cases : ∀ {h : Nat} {d : D}, IT h d → (∃ i, d = .int i) ∨ ∃ h' xs, h = h' + 1 ∧ d = .tup xs ∧ xs ≠ [] ∧ xs.length < 50000 ∧ ∀ x ∈ xs, IT h' x
  | 0, d, h => .inl h
  | h + 1, d, .inl q => by
    rcases it_cases q with q | ⟨h', xs, rfl, e1, e2, e3, e4⟩
    · exact .inl q
    · exact .inr ⟨h' + 1, xs, rfl, e1, e2, e3, fun x hx => .inl (e4 x hx)⟩
  | h + 1, d, .inr ⟨xs, e⟩ => .inr ⟨h, xs, rfl, e⟩
theorem it_all {P : D → Prop} (hi : ∀ i, P (.int i)) (ht : ∀ xs, xs ≠ [] → (∀ x ∈ xs, P x) → P (.tup xs)) : ∀ (h : Nat) (d : D), IT h d → P d
  | 0, d, ⟨i, e⟩ => e ▸ hi i
  | h + 1, d, .inl q => it_all hi ht h d q
  | h + 1, d, .inr ⟨xs, e, ne, _, q⟩ => e ▸ ht xs ne fun x hx => it_all hi ht h x (q x hx)
theorem unders_all {n : Nat} : ∀ {xs : List D}, (∀ x ∈ xs, D.under n x = true) → D.unders n xs = true
  | [], _ => rfl
  | x :: xs, h => by
    simp only [D.unders, Bool.and_eq_true]
    exact ⟨h x (by simp), unders_all fun y hy => h y (by simp [hy])⟩
theorem it_under (h : Nat) (d : D) (q : IT h d) : D.under 0 d = true := it_all (P := fun d => D.under 0 d = true) (fun _ => rfl) (fun xs _ a => unders_all a) h d q
theorem it_vd (S : Sto) (h : Nat) (d : D) (q : IT h d) : vd S d = true := it_all (P := fun d => vd S d = true) (fun _ => rfl) (fun xs _ a => vds_of a) h d q
theorem pys_ok {n : Nat} : ∀ {xs : List D}, (∀ x ∈ xs, ∃ p, D.py x = some p ∧ p.canLay0 = true ∧ p.depth ≤ n) → ∃ ps, D.pys xs = some ps ∧ PyData.canLayAll0 ps = true ∧ PyData.depthAll ps ≤ n ∧ ps.length = xs.length
  | [], _ => ⟨[], rfl, rfl, by simp [PyData.depthAll], rfl⟩
  | x :: xs, h => by
    obtain ⟨p, e1, e2, e3⟩ := h x (by simp)
    obtain ⟨ps, f1, f2, f3, f4⟩ := pys_ok (n := n) (xs := xs) fun y hy => h y (by simp [hy])
    exact ⟨p :: ps, by simp [D.pys, e1, f1], by simp [PyData.canLayAll0, e2, f2], by simp only [PyData.depthAll]; omega, by simp [f4]⟩
theorem it_py : ∀ (h : Nat) (d : D), IT h d → ∃ p, D.py d = some p ∧ p.canLay0 = true ∧ p.depth ≤ h
  | 0, d, ⟨i, e⟩ => ⟨.int i, by rw [e]; rfl, by simp [PyData.canLay0], by simp [PyData.depth]⟩
  | h + 1, d, .inl q => by
    obtain ⟨p, e1, e2, e3⟩ := it_py h d q
    exact ⟨p, e1, e2, by omega⟩
  | h + 1, d, .inr ⟨xs, e, _, _, q⟩ => by
    obtain ⟨ps, e1, e2, e3, _⟩ := pys_ok (n := h) (xs := xs) fun x hx => it_py h x (q x hx)
    exact ⟨.tuple ps, by rw [e]; simp [D.py, e1], by simp [PyData.canLay0, e2], by simp only [PyData.depth]; omega⟩
theorem ne_nil {h : Nat} (hh : h ≤ 10) {xs : List D} (ne : xs ≠ []) (q : ∀ x ∈ xs, IT h x) (s : Sto) : eqT (.v (.tup xs)) (.v (.tup [])) s = some false := by
  obtain ⟨ps, e1, e2, e3, e4⟩ := pys_ok (n := h) (xs := xs) fun x hx => it_py h x (q x hx)
  have h1 : pyOf (.v (.tup xs)) s = some (.tuple ps) := by simp [pyOf, D.py, e1]
  have h2 : pyOf (.v (.tup [])) s = some (.tuple []) := rfl
  have this : eqT (.v (.tup xs)) (.v (.tup [])) s = (pyOf (.v (.tup xs)) s).bind fun d => (pyOf (.v (.tup [])) s).bind fun e => if PySem.SeqAt.shaped d && PySem.SeqAt.shaped e then some (PyData.eqv d e) else none := rfl
  have s1 : PySem.SeqAt.shaped (.tuple ps) = true := by
    simp [PySem.SeqAt.shaped, PyData.canLay0, e2, PyData.depth]
    omega
  have s2 : PySem.SeqAt.shaped (.tuple []) = true := by decide
  rw [this, h1, h2]
  simp only [Option.bind_some, s1, s2, Bool.and_self, if_true]
  cases ps with
  | nil => exact absurd (List.eq_nil_of_length_eq_zero e4.symm) ne
  | cons p ps => simp [PyData.eqv, PyData.eqvAll]
inductive Bad (S : Sto) : D → D → Prop
  | lst (xs : List D) (n : Nat) : (lstAt n S).isSome = true → Bad S (.tup xs) (.loc n)
  | more (xs : List D) : Bad S (.tup xs) (.tup (xs ++ [.non]))
  | part (xs : List D) (i : Nat) (x y : D) : xs[i]? = some x → Bad S x y → Bad S (.tup xs) (.tup (xs.take i ++ [y] ++ xs.drop (i + 1)))
  | bool (i : Int) (b : Bool) : Bad S (.int i) (.bl b)
  | non (i : Int) : Bad S (.int i) .non
  | one (i : Int) (n : Nat) : (lstAt n S).isSome = true → Bad S (.int i) (.loc n)
theorem unders_app {n : Nat} : ∀ {xs ys : List D}, D.unders n (xs ++ ys) = (D.unders n xs && D.unders n ys)
  | [], ys => by simp [D.unders]
  | x :: xs, ys => by simp [D.unders, unders_app (xs := xs), Bool.and_assoc]
theorem lst_take {S : Sto} {n m : Nat} (h : m < n) : lstAt m (S.take n) = lstAt m S := by
  unfold lstAt
  rw [List.getElem?_take_of_lt h]
theorem Bad.cut {S : Sto} {n : Nat} {v d : D} (h : Bad S v d) (u : D.under n d = true) : Bad (S.take n) v d := by
  induction h with
  | lst xs m e => exact .lst xs m (by rw [lst_take (by simpa [D.under] using u)]; exact e)
  | more xs => exact .more xs
  | part xs i x y e _ ih =>
    refine .part xs i x y e (ih ?_)
    simp only [D.under, unders_app, Bool.and_eq_true] at u
    have := u.1.2
    simpa [D.unders] using this
  | bool i b => exact .bool i b
  | non i => exact .non i
  | one i m e => exact .one i m (by rw [lst_take (by simpa [D.under] using u)]; exact e)
/-- what is handed back, kept -/
def Kept (w : Int × Int × Int) (r : Sto) (m : R T) (Q : (Int × Int × Int) → Sto → D → Prop) : Prop := ∃ t s d w' x, m = .ok t s ∧ T.keep t s = (d, Wl w' (r ++ x)) ∧ Cl (r ++ x) ∧ Q w' (Wl w' (r ++ x)) d
/-- a part of what stands, or plain data, goes back -/
theorem kept_tidy {w w' : Int × Int × Int} {r x : Sto} (hr : Cl r) (hx : Cl (r ++ x)) {d : D} {Q : (Int × Int × Int) → Sto → D → Prop} (hl : ∀ m, d = .loc m → ∃ xs, (r ++ x)[m - 1]? = some (.lst xs) ∧ r.length + 1 ≤ m ∧ D.unders 0 xs = true ∧ Q w' (Wl w' (r ++ [.lst xs])) (.loc (r.length + 1)))
    (hd : (∀ m, d ≠ .loc m) → Q w' (Wl w' (r ++ x)) d ∧ (D.under (r.length + 1) d = true → Q w' (Wl w' r) d)) : Kept w r (tidy (r.length + 1) (.v d) (Wl w' (r ++ x))) Q := by
  have e1 : (Wl w' (r ++ x)).take (r.length + 1) = Wl w' r := by unfold Wl; simp
  by_cases hm : ∃ m, d = .loc m
  · obtain ⟨m, rfl⟩ := hm
    obtain ⟨xs, e2, e3, e4, q⟩ := hl m rfl
    have e5 : (Wl w' (r ++ x))[m]? = some (.lst xs) := by
      have : m = (m - 1) + 1 := by omega
      rw [this, Wl_s]; exact e2
    have ht : tidy (r.length + 1) (.v (.loc m)) (Wl w' (r ++ x)) = .ok (.l xs) (Wl w' r) := by
      unfold tidy
      rw [e1, hr.wl]
      simp only [if_true]
      rw [if_neg (by omega), e5]
      simp only [unders_le (Nat.zero_le (r.length + 1)) _ e4, if_true]
    exact ⟨_, _, .loc (r.length + 1), w', [.lst xs], ht, rfl, hr.snoc (unders_le (Nat.zero_le _) _ e4), q⟩
  · have hm' : ∀ m, d ≠ .loc m := fun m e => hm ⟨m, e⟩
    obtain ⟨q1, q2⟩ := hd hm'
    by_cases hu : D.under (r.length + 1) d = true
    · have ht : tidy (r.length + 1) (.v d) (Wl w' (r ++ x)) = .ok (.v d) (Wl w' r) := by
        unfold tidy
        rw [e1, hr.wl]
        cases d with
        | loc m => exact absurd rfl (hm' m)
        | _ => simp [hu]
      exact ⟨_, _, d, w', [], ht, by simp [T.keep], by simpa using hr, by simpa using q2 hu⟩
    · have ht : tidy (r.length + 1) (.v d) (Wl w' (r ++ x)) = .ok (.v d) (Wl w' (r ++ x)) := by
        unfold tidy
        rw [e1, hr.wl]
        cases d with
        | loc m => exact absurd rfl (hm' m)
        | _ => simp [hu]
      exact ⟨_, _, d, w', x, ht, rfl, hx, q1⟩
theorem take_wl (w : Int × Int × Int) (r x : Sto) : (Wl w (r ++ x)).take (r.length + 1) = Wl w r := by unfold Wl; simp
/-- one of two, the first a list that is made for it -/
theorem pick1 (k : Nat) {c : Int} {w : Int × Int × Int} {r : Sto} (hr : Cl r) (hw : Ok c w) (hc : c + 1 ≤ 1000000000) (i : Int) :
    ∃ x w', (x = .non ∨ x = .loc (r.length + 1)) ∧ Ok (c + 1) w' ∧ evS (run tbl 1000 (k+2)) 1000 (.ret (.call "_law_one" (.cons (.var 0) (.cons (.lst (.cons .non (.cons (.lst (.cons (.var 1) .nil)) .nil))) .nil)))) [some (.loc 0), some (.int i), none] (Wl w r) = .rt (.v x) (Wl w' (r ++ [.lst [.int i], .lst [.non, .loc (r.length + 1)]])) := by
  have hL1 : (1 : Nat) ≤ LIM := by decide
  have hL2 : (2 : Nat) ≤ LIM := by decide
  have hR : Cl (r ++ [O.lst [.int i], .lst [.non, .loc (r.length + 1)]]) := by
    have e : r ++ [O.lst [.int i], .lst [.non, .loc (r.length + 1)]] = (r ++ [.lst [.int i]]) ++ [.lst [.non, .loc (r.length + 1)]] := by simp
    rw [e]
    exact (hr.snoc (by simp [O.under, D.unders, D.under])).snoc (by simp [O.under, D.unders, D.under])
  obtain ⟨x, w', hx, o, e⟩ := one k (j := r.length + 1) (xs := [.non, .loc (r.length + 1)]) hw hc hR (by simp) (by simp) (by simp) (fun y hy => by
    simp only [List.mem_cons, List.not_mem_nil, or_false] at hy
    rcases hy with rfl | rfl
    · exact .inl rfl
    · exact .inr ⟨_, rfl, by simp⟩)
  refine ⟨x, w', by simpa using hx, o, ?_⟩
  have hs : Wl w r ++ [O.lst [.int i]] ++ [O.lst [.non, .loc (r.length + 1)]] = Wl w (r ++ [O.lst [.int i], .lst [.non, .loc (r.length + 1)]]) := by simp [Wl]
  have hs2 : Wl w r ++ [O.lst [.int i], O.lst [.non, .loc (r.length + 1)]] = Wl w (r ++ [O.lst [.int i], .lst [.non, .loc (r.length + 1)]]) := by simp [Wl]
  simp [evS, evE, evEs, hL1, hL2, Wl_len, hs, hs2, e]
theorem pick2 (k : Nat) {c : Int} {w : Int × Int × Int} {r : Sto} (hr : Cl r) (hw : Ok c w) (hc : c + 1 ≤ 1000000000) (xs : List D) (hu : D.unders 0 xs = true) (hl : xs.length < 50000) :
    ∃ x w', (x = .loc (r.length + 1) ∨ x = .tup (xs ++ [.non])) ∧ Ok (c + 1) w' ∧ evS (run tbl 1000 (k+2)) 1000 (.ret (.call "_law_one" (.cons (.var 0) (.cons (.lst (.cons (.bi .list (.cons (.var 1) .nil)) (.cons (.bin .add (.var 1) (.tup (.cons .non .nil))) .nil))) .nil)))) [some (.loc 0), some (.tup xs), none] (Wl w r) =
      .rt (.v x) (Wl w' (r ++ [.lst xs, .lst [.loc (r.length + 1), .tup (xs ++ [.non])]])) := by
  have hL1 : (1 : Nat) ≤ LIM := by decide
  have hL2 : (2 : Nat) ≤ LIM := by decide
  have hL3 : xs.length + 1 ≤ LIM := LIM_big (by omega)
  have hu2 : D.unders 0 (xs ++ [.non]) = true := by rw [unders_app, hu]; rfl
  have hR : Cl (r ++ [O.lst xs, .lst [.loc (r.length + 1), .tup (xs ++ [.non])]]) := by
    have e : r ++ [O.lst xs, .lst [.loc (r.length + 1), .tup (xs ++ [.non])]] = (r ++ [.lst xs]) ++ [.lst [.loc (r.length + 1), .tup (xs ++ [.non])]] := by simp
    rw [e]
    refine (hr.snoc (by simp only [O.under]; exact unders_le (Nat.zero_le _) _ hu)).snoc ?_
    have := unders_le (Nat.zero_le ((r ++ [O.lst xs]).length + 1)) _ hu2
    simp only [O.under, D.unders, D.under, this, Bool.and_true, decide_eq_true_eq]
    simp
  obtain ⟨x, w', hx, o, e⟩ := one k (j := r.length + 1) (xs := [.loc (r.length + 1), .tup (xs ++ [.non])]) hw hc hR (by simp) (by simp) (by simp) (fun y hy => by
    simp only [List.mem_cons, List.not_mem_nil, or_false] at hy
    rcases hy with rfl | rfl
    · exact .inr ⟨_, rfl, by simp⟩
    · exact .inl (by simpa [D.under] using hu2))
  refine ⟨x, w', by simpa using hx, o, ?_⟩
  have hs2 : Wl w r ++ [O.lst xs, O.lst [.loc (r.length + 1), .tup (xs ++ [.non])]] = Wl w (r ++ [O.lst xs, .lst [.loc (r.length + 1), .tup (xs ++ [.non])]]) := by simp [Wl]
  simp [evS, evE, evEs, evTs, biT, seqOf, binT, hL1, hL2, hL3, Wl_len, hs2, e]
def wB0 : S := nth f__law_wronged.body 0
def wB1 : S := nth f__law_wronged.body 1
theorem w_text : f__law_wronged = ⟨2, 3, [], .cons wB0 (.cons wB1 (.cons (.ret (.call "_law_one" (.cons (.var 0) (.cons (.lst (.cons .non (.cons (.lst (.cons (.var 1) .nil)) .nil))) .nil)))) .nil))⟩ := rfl
theorem wronged_int (k : Nat) (i : Int) {c : Int} {w : Int × Int × Int} {r : Sto} (hr : Cl r) (hw : Ok c w) (hc : c + 2 ≤ 1000000000) :
    Kept w r (run tbl 1000 (k+3) "_law_wronged" [.loc 0, .int i] (Wl w r)) (fun w' S d => Ok (c + 2) w' ∧ Bad S (.int i) d) := by
  have st0 : ∀ w, evS (run tbl 1000 (k+2)) 1000 wB0 [some (.loc 0), some (.int i), none] (Wl w r) = .nx [some (.loc 0), some (.int i), none] (Wl w r) := fun w => by
    simp [wB0, f__law_wronged, nth, evSs, evS, evE, evTs, biT, tyOf, kinds, isSub, truth]
  -- the last return
  have last : ∀ w1, Ok (c + 1) w1 → Kept w r ((evSs (run tbl 1000 (k+2)) 1000 (.cons (.ret (.call "_law_one" (.cons (.var 0) (.cons (.lst (.cons .non (.cons (.lst (.cons (.var 1) .nil)) .nil))) .nil)))) .nil) [some (.loc 0), some (.int i), none] (Wl w1 r)).res (r.length + 1)) (fun w' S d => Ok (c + 2) w' ∧ Bad S (.int i) d) := fun w1 o1 => by
    obtain ⟨x, w2, hx, o2, e⟩ := pick1 k hr o1 (by omega) i
    have o2' := o2.le (show c + 1 + 1 ≤ c + 2 by omega) hc
    have hR : Cl (r ++ [O.lst [.int i], .lst [.non, .loc (r.length + 1)]]) := by
      have e : r ++ [O.lst [.int i], .lst [.non, .loc (r.length + 1)]] = (r ++ [.lst [.int i]]) ++ [.lst [.non, .loc (r.length + 1)]] := by simp
      rw [e]
      exact (hr.snoc (by simp [O.under, D.unders, D.under])).snoc (by simp [O.under, D.unders, D.under])
    rw [seq_rt e]
    simp only [Fl.res]
    refine kept_tidy (w := w) hr hR (fun m em => ?_) fun hm => ?_
    · subst em
      rcases hx with hx | hx
      · cases hx
      · cases hx
        refine ⟨[.int i], by simp, Nat.le_refl _, rfl, o2', .one i _ ?_⟩
        have : lstAt (r.length + 1) (Wl w2 (r ++ [O.lst [.int i]])) = some [.int i] := by simp [lstAt, Wl_s]
        rw [this]
        rfl
    · rcases hx with rfl | rfl
      · exact ⟨⟨o2', .non i⟩, fun _ => ⟨o2', .non i⟩⟩
      · exact absurd rfl (hm _)
  rw [run, tbl__law_wronged, w_text]
  simp only [Fn.fill, List.append_nil, List.drop_nil, List.length_cons, List.length_nil, Nat.zero_add, if_true, List.map_cons, List.map_nil, Nat.reduceSub, Nat.reduceAdd, List.replicate, List.cons_append, List.nil_append, Wl_len]
  rw [seq_nx (st0 w)]
  by_cases hi : 0 ≤ i ∧ i < 2
  · obtain ⟨d, w1, d0, _, o1, e1⟩ := dip (k+1) (m := 3) hw (by omega) (by decide) (by decide) hr
    by_cases hd : 0 < d
    · have st1 : evS (run tbl 1000 (k+2)) 1000 wB1 [some (.loc 0), some (.int i), none] (Wl w r) = .rt (.v (.bl (decide (i = 1)))) (Wl w1 r) := by
        simp [wB1, f__law_wronged, nth, evSs, evS, evE, evEs, evTs, biT, tyOf, kinds, isSub, truth, cmpT, ordT, ordI, eqT, e1, hi.1, hi.2, hd, Fl.then]
      rw [seq_rt st1]
      simp only [Fl.res]
      have ht := tidy_d0 (w := w1) hr rfl (.bl (decide (i = 1))) rfl
      rw [ht]
      exact ⟨_, _, .bl (decide (i = 1)), w1, [], rfl, by simp [T.keep], by simpa using hr, o1.le (by omega) hc, .bool i _⟩
    · have st1 : evS (run tbl 1000 (k+2)) 1000 wB1 [some (.loc 0), some (.int i), none] (Wl w r) = .nx [some (.loc 0), some (.int i), none] (Wl w1 r) := by
        simp [wB1, f__law_wronged, nth, evSs, evS, evE, evEs, evTs, biT, tyOf, kinds, isSub, truth, cmpT, ordT, ordI, eqT, e1, hi.1, hi.2, hd, Fl.then]
      rw [seq_nx st1]
      exact last w1 o1
  · have st1 : evS (run tbl 1000 (k+2)) 1000 wB1 [some (.loc 0), some (.int i), none] (Wl w r) = .nx [some (.loc 0), some (.int i), none] (Wl w r) := by
      by_cases h0 : 0 ≤ i
      · have h2 : ¬ i < 2 := fun z => hi ⟨h0, z⟩
        simp [wB1, f__law_wronged, nth, evSs, evS, evE, evEs, evTs, biT, tyOf, kinds, isSub, truth, cmpT, ordT, ordI, eqT, h0, h2, Fl.then]
      · simp [wB1, f__law_wronged, nth, evSs, evS, evE, evEs, evTs, biT, tyOf, kinds, isSub, truth, cmpT, ordT, ordI, eqT, h0, Fl.then]
    rw [seq_nx st1]
    exact last w (hw.le (by omega) (by omega))
def tupE : E := .bin .add (.bin .add (.slc (.var 1) .none (.some (.var 2))) (.tup (.cons (.call "_law_wronged" (.cons (.var 0) (.cons (.idx (.var 1) (.var 2)) .nil))) .nil))) (.slc (.var 1) (.some (.bin .add (.var 2) (.int 1))) .none)
theorem wB0_text : wB0 = .ite (.bi .isinst (.cons (.var 1) (.cons (.tyn "tuple" "tuple") .nil))) (.cons (.ite (.and2 (.cmp .ne (.var 1) (.tup .nil)) (.cmp .gt (.call "_law_dip" (.cons (.var 0) (.cons (.int 5) .nil))) (.int 0))) (.cons (.asg (.nm 2) (.call "_law_dip" (.cons (.var 0) (.cons (.bi .len (.cons (.var 1) .nil)) .nil)))) (.cons (.ret tupE) .nil)) .nil)
    (.cons (.ret (.call "_law_one" (.cons (.var 0) (.cons (.lst (.cons (.bi .list (.cons (.var 1) .nil)) (.cons (.bin .add (.var 1) (.tup (.cons .non .nil))) .nil))) .nil)))) .nil)) .nil := rfl
theorem wronged (k : Nat) : ∀ (h : Nat), h ≤ 8 → ∀ (v : D), IT h v → ∀ (c : Int) (w : Int × Int × Int) (r : Sto), Cl r → Ok c w → c + 3 * ((h : Int) + 1) ≤ 1000000000 →
    Kept w r (run tbl 1000 (k+h+3) "_law_wronged" [.loc 0, v] (Wl w r)) (fun w' S d => Ok (c + 3 * ((h : Int) + 1)) w' ∧ Bad S v d) := by
  have weak : ∀ {w : Int × Int × Int} {r : Sto} {m : R T} {a b : Int} {v : D}, Kept w r m (fun w' S d => Ok a w' ∧ Bad S v d) → a ≤ b → b ≤ 1000000000 → Kept w r m (fun w' S d => Ok b w' ∧ Bad S v d) := fun ⟨t, s, d, w', x, e1, e2, e3, o, q⟩ h1 h2 => ⟨t, s, d, w', x, e1, e2, e3, o.le h1 h2, q⟩
  intro h
  induction h with
  | zero =>
    rintro hh v ⟨i, rfl⟩ c w r hr hw hc
    exact weak (wronged_int k i hr hw (by omega)) (by omega) hc
  | succ h ih =>
    intro hh v hv c w r hr hw hc
    rcases it_cases hv with ⟨i, rfl⟩ | ⟨h', xs, eh, rfl, ne, hlen, hx⟩
    · exact weak (wronged_int (k + (h + 1)) i hr hw (by omega)) (by omega) hc
    have eh' : h = h' := by omega
    subst eh'
    have hu : D.unders 0 xs = true := unders_all fun x hx' => it_under h x (hx x hx')
    have hne := ne_nil (h := h) (by omega) ne hx
    have hpos : 0 < xs.length := List.length_pos_iff.mpr ne
    obtain ⟨d, w1, d0, _, o1, e1⟩ := dip (k+h+2) (m := 5) hw (by omega) (by decide) (by decide) hr
    have hfu : k + (h + 1) + 3 = (k + h + 3) + 1 := by omega
    rw [hfu, run, tbl__law_wronged, w_text]
    simp only [Fn.fill, List.append_nil, List.drop_nil, List.length_cons, List.length_nil, Nat.zero_add, if_true, List.map_cons, List.map_nil, Nat.reduceSub, Nat.reduceAdd, List.replicate, List.cons_append, List.nil_append, Wl_len]
    rw [wB0_text]
    by_cases hd : 0 < d
    · obtain ⟨j, w2, j0, jn, o2, e2⟩ := dip (k+h+2) (m := (xs.length : Int)) o1 (by omega) (by omega) (by omega) hr
      obtain ⟨j, rfl⟩ := Int.eq_ofNat_of_zero_le j0
      have hj : j < xs.length := by omega
      have hat := at_nat hj
      obtain ⟨t, s, d', w3, x, e3, e4, e5, o3, q3⟩ := ih (by omega) xs[j] (hx _ (List.getElem_mem hj)) (c + 2) w2 r hr (o2.le (by omega) (by omega)) (by omega)
      have o3' := o3.le (show c + 2 + 3 * ((h : Int) + 1) ≤ c + 3 * (((h + 1 : Nat) : Int) + 1) by omega) hc
      have hk : keepR t s = .ok d' (Wl w3 (r ++ x)) := by simp only [keepR, e4]
      have hc1 := cut_to xs j
      have hc2 := cut_from xs (j + 1)
      have ej : ((j + 1 : Nat) : Int) = (j : Int) + 1 := by omega
      rw [ej] at hc2
      have hb1 : (xs.take j).length + 1 ≤ LIM := LIM_big (by rw [List.length_take]; omega)
      have hb2 : ((xs.take j ++ [d']).length + (xs.drop (j + 1)).length) ≤ LIM := LIM_big (by rw [List.length_append, List.length_take, List.length_drop, List.length_cons, List.length_nil]; omega)
      have hL1 : (1 : Nat) ≤ LIM := by decide
      have hret : evE (run tbl 1000 (k+h+3)) tupE [some (.loc 0), some (.tup xs), some (.int (j : Int))] (Wl w2 r) = .ok (.v (.tup (xs.take j ++ [d'] ++ xs.drop (j + 1)))) (Wl w3 (r ++ x)) := by
        generalize xs.take j = A at hc1 hb1 hb2 ⊢
        generalize xs.drop (j + 1) = B at hc2 hb2 ⊢
        have hs1 : ∀ s, slcT (.v (.tup xs)) none (some (j : Int)) s = some (.v (.tup A)) := fun s => by simp only [slcT, hc1]
        have hs2 : ∀ s, slcT (.v (.tup xs)) (some ((j : Int) + 1)) none s = some (.v (.tup B)) := fun s => by simp only [slcT, hc2]
        have ha1 : ∀ s, binT .add (.v (.tup A)) (.v (.tup [d'])) s = some (.v (.tup (A ++ [d']))) := fun s => by simp only [binT, List.length_cons, List.length_nil, Nat.zero_add, hb1, if_true]
        have ha2 : ∀ s, binT .add (.v (.tup (A ++ [d']))) (.v (.tup B)) s = some (.v (.tup (A ++ [d'] ++ B))) := fun s => by simp only [binT, hb2, if_true]
        have hai : ∀ s, binT .add (.v (.int (j : Int))) (.v (.int 1)) s = some (.v (.int ((j : Int) + 1))) := fun _ => rfl
        generalize A ++ [d'] ++ B = AB at ha2 ⊢
        generalize A ++ [d'] = A1 at ha1 ha2
        generalize (j : Int) = jj at *
        simp [tupE, evE, evEs, evEo, hs1, hs2, ha1, ha2, hai, idxT, dicAt, seqOf, hat, e3, hk, hL1]
      have st0 : evS (run tbl 1000 (k+h+3)) 1000 (.ite (.bi .isinst (.cons (.var 1) (.cons (.tyn "tuple" "tuple") .nil))) (.cons (.ite (.and2 (.cmp .ne (.var 1) (.tup .nil)) (.cmp .gt (.call "_law_dip" (.cons (.var 0) (.cons (.int 5) .nil))) (.int 0))) (.cons (.asg (.nm 2) (.call "_law_dip" (.cons (.var 0) (.cons (.bi .len (.cons (.var 1) .nil)) .nil)))) (.cons (.ret tupE) .nil)) .nil)
    (.cons (.ret (.call "_law_one" (.cons (.var 0) (.cons (.lst (.cons (.bi .list (.cons (.var 1) .nil)) (.cons (.bin .add (.var 1) (.tup (.cons .non .nil))) .nil))) .nil)))) .nil)) .nil) [some (.loc 0), some (.tup xs), none] (Wl w r) = .rt (.v (.tup (xs.take j ++ [d'] ++ xs.drop (j + 1)))) (Wl w3 (r ++ x)) := by
        generalize xs.take j ++ [d'] ++ xs.drop (j + 1) = RES at hret ⊢
        generalize tupE = te at hret ⊢
        generalize S.ret (E.call "_law_one" _) = st
        have hL0 : (0 : Nat) ≤ LIM := by decide
        have hl2 : ∀ s, biT .len [.v (.tup xs)] s = some (.v (.int (xs.length : Int))) := fun _ => rfl
        have hi2 : ∀ s, biT .isinst [.v (.tup xs), .v (.ty "tuple")] s = some (.v (.bl true)) := fun _ => rfl
        generalize (xs.length : Int) = ll at e2 hl2
        generalize (j : Int) = jj at *
        simp [evSs, evS, evE, evEs, evTs, hi2, hl2, truth, cmpT, hne, hL0, e1, ordT, ordI, hd, e2, bindT, hret, Fl.then]
      rw [seq_rt st0]
      simp only [Fl.res]
      have hbad : Bad (Wl w3 (r ++ x)) (.tup xs) (.tup (xs.take j ++ [d'] ++ xs.drop (j + 1))) := .part xs j xs[j] d' (List.getElem?_eq_getElem hj) q3
      exact kept_tidy (w := w) hr e5 (fun m em => by cases em) fun _ => ⟨⟨o3', hbad⟩, fun hun => ⟨o3', by have := hbad.cut hun; rwa [take_wl] at this⟩⟩
    · obtain ⟨y, w2, hy, o2, e2⟩ := pick2 (k+h+1) hr o1 (by omega) xs hu hlen
      have o2' := o2.le (show c + 1 + 1 ≤ c + 3 * (((h + 1 : Nat) : Int) + 1) by omega) hc
      have st0 : evS (run tbl 1000 (k+h+3)) 1000 (.ite (.bi .isinst (.cons (.var 1) (.cons (.tyn "tuple" "tuple") .nil))) (.cons (.ite (.and2 (.cmp .ne (.var 1) (.tup .nil)) (.cmp .gt (.call "_law_dip" (.cons (.var 0) (.cons (.int 5) .nil))) (.int 0))) (.cons (.asg (.nm 2) (.call "_law_dip" (.cons (.var 0) (.cons (.bi .len (.cons (.var 1) .nil)) .nil)))) (.cons (.ret tupE) .nil)) .nil)
    (.cons (.ret (.call "_law_one" (.cons (.var 0) (.cons (.lst (.cons (.bi .list (.cons (.var 1) .nil)) (.cons (.bin .add (.var 1) (.tup (.cons .non .nil))) .nil))) .nil)))) .nil)) .nil) [some (.loc 0), some (.tup xs), none] (Wl w r) = .rt (.v y) (Wl w2 (r ++ [.lst xs, .lst [.loc (r.length + 1), .tup (xs ++ [.non])]])) := by
        generalize Wl w2 (r ++ [O.lst xs, .lst [.loc (r.length + 1), .tup (xs ++ [.non])]]) = S2 at e2 ⊢
        generalize S.ret (E.call "_law_one" _) = st at e2 ⊢
        generalize tupE = te
        have hL0 : (0 : Nat) ≤ LIM := by decide
        have hi2 : ∀ s, biT .isinst [.v (.tup xs), .v (.ty "tuple")] s = some (.v (.bl true)) := fun _ => rfl
        simp [evSs, evS, evE, evEs, evTs, hi2, truth, cmpT, hne, hL0, e1, ordT, ordI, hd, e2, Fl.then]
      rw [seq_rt st0]
      simp only [Fl.res]
      have hu2 : D.unders 0 (xs ++ [.non]) = true := by rw [unders_app, hu]; rfl
      have hR : Cl (r ++ [O.lst xs, .lst [.loc (r.length + 1), .tup (xs ++ [.non])]]) := by
        have e : r ++ [O.lst xs, .lst [.loc (r.length + 1), .tup (xs ++ [.non])]] = (r ++ [.lst xs]) ++ [.lst [.loc (r.length + 1), .tup (xs ++ [.non])]] := by simp
        rw [e]
        refine (hr.snoc (by simp only [O.under]; exact unders_le (Nat.zero_le _) _ hu)).snoc ?_
        have := unders_le (Nat.zero_le ((r ++ [O.lst xs]).length + 1)) _ hu2
        simp only [O.under, D.unders, D.under, this, Bool.and_true, decide_eq_true_eq]
        simp
      refine kept_tidy (w := w) hr hR (fun m em => ?_) fun hm => ?_
      · subst em
        rcases hy with hy | hy
        · cases hy
          refine ⟨xs, by simp, Nat.le_refl _, hu, o2', .lst xs _ ?_⟩
          have : lstAt (r.length + 1) (Wl w2 (r ++ [O.lst xs])) = some xs := by simp [lstAt, Wl_s]
          rw [this]
          rfl
        · cases hy
      · rcases hy with rfl | rfl
        · exact absurd rfl (hm _)
        · exact ⟨⟨o2', .more xs⟩, fun _ => ⟨o2', .more xs⟩⟩
end K61
end
section
set_option maxRecDepth 100000
set_option maxHeartbeats 2000000
set_option linter.unusedSimpArgs false
namespace K61
open Fy
open PySem (PyData)
/-! ### _law_wrong -/
theorem unders_mem {n : Nat} : ∀ {xs : List D}, D.unders n xs = true → ∀ x ∈ xs, D.under n x = true
  | [], _, x, h => by cases h
  | y :: ys, u, x, h => by
    simp only [D.unders, Bool.and_eq_true] at u
    rcases List.mem_cons.mp h with rfl | h
    · exact u.1
    · exact unders_mem u.2 x h
theorem Cl.at {r : Sto} (hr : Cl r) {j : Nat} {xs : List D} (hj : r[j]? = some (.lst xs)) : D.unders (r.length + 1) xs = true := List.all_eq_true.mp hr _ (List.mem_of_getElem? hj)
theorem one' (k : Nat) {n : Int} {w : Int × Int × Int} {j : Nat} {xs : List D} {r : Sto} (hw : Ok n w) (hn : n + 1 ≤ 1000000000) (hr : Cl r) (hj : r[j]? = some (.lst xs)) (h0 : xs ≠ []) (hl : xs.length < 100000) :
    ∃ (i : Nat) (x : D) (w' : Int × Int × Int), xs[i]? = some x ∧ Ok (n + 1) w' ∧ run tbl 1000 (k+2) "_law_one" [.loc 0, .loc (j + 1)] (Wl w r) = .ok (.v x) (Wl w' r) := by
  have hpos : 0 < xs.length := List.length_pos_iff.mpr h0
  obtain ⟨d, w', d1, d2, o, e⟩ := dip k (m := (xs.length : Int)) hw hn (by omega) (by omega) hr
  obtain ⟨m, rfl⟩ := Int.eq_ofNat_of_zero_le d1
  have hm : m < xs.length := by omega
  have ea := at_nat hm
  refine ⟨m, xs[m], w', List.getElem?_eq_getElem hm, o, ?_⟩
  have hu := unders_mem (hr.at hj) xs[m] (List.getElem_mem hm)
  have ht : tidy (r.length + 1) (.v xs[m]) (Wl w' r) = .ok (.v xs[m]) (Wl w' r) := by
    have e1 : (Wl w' r).take (r.length + 1) = Wl w' r := by unfold Wl; simp
    generalize xs[m] = x at hu ⊢
    unfold tidy
    rw [e1, hr.wl]
    cases x with
    | loc q =>
      have hq : q < r.length + 1 := by simpa [D.under] using hu
      simp [hq]
    | _ => simp [hu]
  rw [run, tbl__law_one]
  simp only [f__law_one]
  have hl1 : lstAt (j + 1) (Wl w r) = some xs := by simp [lstAt, Wl_s, hj]
  have hl2 : lstAt (j + 1) (Wl w' r) = some xs := by simp [lstAt, Wl_s, hj]
  simp [Fn.fill, evSs, evS, evE, evEs, evTs, biT, seqOf, lstOf, idxT, dicAt, hl1, hl2, e, Wl_s, hj, ea, Fl.then, Fl.res, Wl_len, ht]
def outs (m t : Nat) : List Int := ((List.range m).map fun i : Nat => (i : Int)).filter fun x => decide (x ∉ lotAt m (t + 1))
def outsD (m t : Nat) : List D := (outs m t).map .int ++ [.int (m : Int), .int (-1), .non]
theorem outs_lc (k : Nat) {m t : Nat} (hm : m ≤ 5) (S : Sto) (x0 x2 x3 x4 x5 x6 x7 x8 : D) (o10 o11 o12 o13 o14 o15 : Option D) :
    evE (run tbl 1000 k) (.lc [("one", 14)] (.nm 14) (.rng (.cons (.var 1) .nil)) (.some (.cmp .notin (.var 14) (.var 9))) (.var 14)) [some x0, some (.int (m : Int)), some x2, some x3, some x4, some x5, some x6, some x7, some x8, some (lotD (lotAt m (t + 1))), o10, o11, o12, o13, o14, o15] S = .ok (.l ((outs m t).map .int)) S := by
  have hlc := lc_pure (F := lcF (.nm 14) [14] [some x0, some (.int (m : Int)), some x2, some x3, some x4, some x5, some x6, some x7, some x8, some (lotD (lotAt m (t + 1))), o10, o11, o12, o13, o14, o15] (fun ρ s => (evE (run tbl 1000 k) (.cmp .notin (.var 14) (.var 9)) ρ s).bind fun t s => ofO (truth t s) s) (evE (run tbl 1000 k) (.var 14))) (A := fun i : Nat => D.int (i : Int)) (G := fun i : Nat => if decide ((i : Int) ∉ lotAt m (t + 1)) = true then some (.int (i : Int)) else none) (s := S) (List.range m) [] (fun i _ => by
    have hin := in_ints (i : Int) (lotAt m (t + 1)) S
    generalize (m : Int) = mm
    by_cases hc : (i : Int) ∈ lotAt m (t + 1)
    · have h1 : decide ((i : Int) ∉ lotAt m (t + 1)) = false := by simp [hc]
      rw [decide_eq_true hc] at hin
      rw [h1]
      generalize lotD (lotAt m (t + 1)) = LD at hin ⊢
      generalize (i : Int) = ii at hin ⊢
      simp [lcF, bindT, wipeE, evE, cmpT, hin, truth]
    · have h1 : decide ((i : Int) ∉ lotAt m (t + 1)) = true := by simp [hc]
      rw [decide_eq_false hc] at hin
      rw [h1]
      generalize lotD (lotAt m (t + 1)) = LD at hin ⊢
      generalize (i : Int) = ii at hin ⊢
      simp [lcF, bindT, wipeE, evE, cmpT, hin, truth]) (range_ok hm)
  have e4 : ([] ++ (List.range m).filterMap fun i : Nat => if decide ((i : Int) ∉ lotAt m (t + 1)) = true then some (D.int (i : Int)) else none) = (outs m t).map .int := by
    rw [List.nil_append, fm_filter (fun i : Nat => decide ((i : Int) ∉ lotAt m (t + 1))) (fun i : Nat => (i : Int)) D.int]
    congr 1
    unfold outs
    rw [List.filter_map]
    rfl
  rw [e4] at hlc
  have r5 := rng5 hm
  have hi : evIt (run tbl 1000 k) (.rng (.cons (.var 1) .nil)) [some x0, some (.int (m : Int)), some x2, some x3, some x4, some x5, some x6, some x7, some x8, some (lotD (lotAt m (t + 1))), o10, o11, o12, o13, o14, o15] S = .ok ⟨(List.range m).map fun i => D.int (i : Nat), []⟩ S := by
    generalize (m : Int) = mm at r5 ⊢
    simp [evIt, evEs, evE, rangeOf, r5]
  rw [evE, hi]
  exact hlc
/-- a value put in the place of the pair -/
def putP (RR CC : List D) (a t : Nat) (y : D) : D := .tup (RR.take a ++ [.tup (CC.take t ++ [y] ++ CC.drop (t + 1))] ++ RR.drop (a + 1))
def putR (RR : List D) (a : Nat) (y : D) : D := .tup (RR.take a ++ [y] ++ RR.drop (a + 1))
theorem vd_take {S : Sto} {n : Nat} : ∀ {d : D}, vd S d = true → D.under n d = true → vd (S.take n) d = true := by
  suffices key : ∀ (d : D), (vd S d = true → D.under n d = true → vd (S.take n) d = true) from fun {d} => key d
  intro d
  induction d using D.rec (motive_2 := fun ds => vds S ds = true → D.unders n ds = true → vds (S.take n) ds = true) with
  | non => intros; rfl
  | bl _ => intros; rfl
  | int _ => intros; rfl
  | str _ => intros; rfl
  | tup xs ih => intro h u; exact ih h u
  | fro xs _ => intro h; cases h
  | loc m => intro h u; simp only [vd] at h ⊢; rw [lst_take (by simpa [D.under] using u)]; exact h
  | ty _ => intro h; cases h
  | gl _ => intro h; cases h
  | nil => intros; rfl
  | cons x xs h1 h2 =>
    rename_i h u
    simp only [vds, D.unders, Bool.and_eq_true] at h u ⊢
    exact ⟨h1 h.1 u.1, h2 h.2 u.2⟩
def bentE (pr : Str) : E := .bin .add (.bin .add (.slc (.var 4) .none (.some (.var 5))) (.tup (.cons (.bin .add (.bin .add (.slc (.idx (.var 4) (.var 5)) .none (.some (.var 6))) (.tup (.cons (.var 15) .nil))) (.slc (.idx (.var 4) (.var 5)) (.some (.bin .add (.var 6) (.int 1))) .none)) .nil))) (.slc (.var 4) (.some (.bin .add (.var 5) (.int 1))) .none)
def pairsD (x0 : D) (i beh : Int) (n : Int) (l : Nat) : List D := [.tup [x0, .int beh], .tup [.int i, .int n], .tup [.int i, .int (-1)], .tup [.int i, .non], .tup [.int i], .tup [.int i, .int beh, .int 0], .loc l, .non]
def bentD (RR CC : List D) (a t : Nat) (P : List D) (l1 l2 : Nat) : List D := P.map (putP RR CC a t) ++ [putR RR a (.tup (CC.drop 1)), putR RR a (.tup (CC ++ CC.take 1)), putR RR a (.loc l1), .loc l2, .tup [], .non]
def oddD (b : Int) (n : Int) (RR : List D) (B : List D) (l : Nat) : List D := B.map (fun y => .tup [.int b, y]) ++ [.tup [.int n, .tup RR], .tup [.int (-1), .tup RR], .tup [.non, .tup RR], .tup [.int b], .tup [.int b, .tup RR, .int 0], .loc l, .non, .tup RR]
def wS (i : Nat) : S := nth f__law_wrong.body i
theorem wrong_text : f__law_wrong = ⟨3, 16, [], .cons (wS 0) (.cons (wS 1) (.cons (wS 2) (.cons (wS 3) (.cons (wS 4) (.cons (wS 5) (.cons (wS 6) (.cons (wS 7) (.cons (wS 8) (.cons (wS 9) .nil)))))))))⟩ := rfl
section
variable {RR CC : List D} {a t : Nat} {m : Nat} {b i beh : Int} {n : Nat} (k : Nat)
/-- what stands beside -/
abbrev wE (m : Nat) (x2 : D) (b : Int) (RR : List D) (a t : Nat) (i beh : Int) (LOT : D) (o10 o11 o12 o13 o14 o15 : Option D) : Env := [some (.loc 0), some (.int (m : Int)), some x2, some (.int b), some (.tup RR), some (.int (a : Int)), some (.int (t : Int)), some (.int i), some (.int beh), some LOT, o10, o11, o12, o13, o14, o15]
theorem w4 {S : Sto} {x2 : D} (hm : m ≤ 5) : evS (run tbl 1000 k) 1000 (wS 4) (wE m x2 b RR a t i beh (lotD (lotAt m (t + 1))) none none none none none none) S = .nx (wE m x2 b RR a t i beh (lotD (lotAt m (t + 1))) (some (.loc S.length)) none none none none none) (S ++ [.lst (outsD m t)]) := by
  have hlc := outs_lc k (t := t) hm S (.loc 0) x2 (.int b) (.tup RR) (.int (a : Int)) (.int (t : Int)) (.int i) (.int beh) none none none none none none
  have hL3 : (3 : Nat) ≤ LIM := by decide
  have hl : (outs m t).length + 3 ≤ LIM := LIM_big (by
    have : (outs m t).length ≤ m := by
      unfold outs
      exact Nat.le_trans (List.length_filter_le _ _) (by simp)
    omega)
  have hadd : binT .add (.l ((outs m t).map .int)) (.l [.int (m : Int), .int (-1), .non]) S = some (.l (outsD m t)) := by
    have : binT .add (.l ((outs m t).map .int)) (.l [.int (m : Int), .int (-1), .non]) S = (if ((outs m t).map D.int).length + 3 ≤ LIM then some (.l ((outs m t).map .int ++ [.int (m : Int), .int (-1), .non])) else none) := rfl
    rw [this, List.length_map, if_pos hl]
    rfl
  have e9 : wS 4 = .asg (.nm 10) (.bin .add (.lc [("one", 14)] (.nm 14) (.rng (.cons (.var 1) .nil)) (.some (.cmp .notin (.var 14) (.var 9))) (.var 14)) (.lst (.cons (.var 1) (.cons (.neg (.int 1)) (.cons .non .nil))))) := rfl
  rw [e9]
  unfold wE
  generalize (outs m t).map D.int = L1 at hlc hadd
  generalize outsD m t = L2 at hadd ⊢
  generalize lotD (lotAt m (t + 1)) = LD at hlc ⊢
  generalize E.lc _ _ _ _ _ = ent at hlc ⊢
  generalize (m : Int) = mm at hlc hadd ⊢
  generalize (a : Int) = aa at hlc ⊢
  generalize (t : Int) = tt at hlc ⊢
  simp [evS, evE, evEs, hlc, hL3, hadd, bindT]
theorem w5 {S S' : Sto} {x2 LOT x0 : D} {l : Nat} (hl : RR.length = n) (hone : run tbl 1000 k "_law_one" [.loc 0, .loc l] S = .ok (.v x0) S') : evS (run tbl 1000 k) 1000 (wS 5) (wE m x2 b RR a t i beh LOT (some (.loc l)) none none none none none) S = .nx (wE m x2 b RR a t i beh LOT (some (.loc l)) (some (.loc (S'.length + 1))) none none none none) (S' ++ [.lst [.int i, .int beh], .lst (pairsD x0 i beh n S'.length)]) := by
  have hL : ∀ {q : Nat}, q ≤ 1000 → q ≤ LIM := fun {q} hq => LIM_big (by omega)
  have hL1 : (1 : Nat) ≤ LIM := by decide
  have hL2 : (2 : Nat) ≤ LIM := by decide
  have hL3 : (3 : Nat) ≤ LIM := by decide
  have hL8 : (8 : Nat) ≤ LIM := by decide
  have hln : ∀ s, biT .len [.v (.tup RR)] s = some (.v (.int (n : Int))) := fun s => by simp only [biT, seqOf, Option.map_some, hl]
  unfold wE pairsD
  generalize (m : Int) = mm
  generalize (n : Int) = nn at hln ⊢
  generalize (a : Int) = aa
  generalize (t : Int) = tt
  simp [wS, f__law_wrong, nth, evS, evE, evEs, evTs, hone, hln, hL1, hL2, hL3, hL8, bindT]
theorem w6 {S : Sto} {x2 LOT : D} {l : Nat} {P : List D} {o10 : Option D} (hP : S[l]? = some (.lst P)) (hPl : P.length ≤ 1000) (har : L2.atI RR (a : Int) = some (.tup CC)) (hRl : RR.length ≤ 1000) (hCl : CC.length ≤ 1000) :
    evS (run tbl 1000 k) 1000 (wS 6) (wE m x2 b RR a t i beh LOT o10 (some (.loc l)) none none none none) S = .nx (wE m x2 b RR a t i beh LOT o10 (some (.loc l)) (some (.loc S.length)) none none none) (S ++ [.lst (P.map (putP RR CC a t))]) := by
  have hL1 : (1 : Nat) ≤ LIM := by decide
  have hla : lstAt l S = some P := by simp only [lstAt, hP]
  have hst : stands [(l, P)] S = true := by simp [stands, hla]
  have ea : ((a + 1 : Nat) : Int) = (a : Int) + 1 := by omega
  have et : ((t + 1 : Nat) : Int) = (t : Int) + 1 := by omega
  have c1 := cut_to RR a
  have c2 := cut_from RR (a + 1)
  have c3 := cut_to CC t
  have c4 := cut_from CC (t + 1)
  rw [ea] at c2
  rw [et] at c4
  have hb : ∀ {q : Nat}, q ≤ 3000 → q ≤ LIM := fun {q} hq => LIM_big (by omega)
  have hlc := lc_pureS (F := lcF (.nm 15) [15] (wE m x2 b RR a t i beh LOT o10 (some (.loc l)) none none none none) (fun _ s => .ok true s) (evE (run tbl 1000 k) (bentE "pair"))) (A := fun y : D => y) (G := fun y => some (putP RR CC a t y)) hst P [] (fun y _ => by
    have n1 : ((CC.take t).length + 1) ≤ LIM := hb (by rw [List.length_take]; omega)
    have n2 : ((CC.take t ++ [y]).length + (CC.drop (t + 1)).length) ≤ LIM := hb (by rw [List.length_append, List.length_take, List.length_drop]; simp; omega)
    have n3 : ((RR.take a).length + 1) ≤ LIM := hb (by rw [List.length_take]; omega)
    have n4 : ∀ z : D, ((RR.take a ++ [z]).length + (RR.drop (a + 1)).length) ≤ LIM := fun z => hb (by rw [List.length_append, List.length_take, List.length_drop]; simp; omega)
    unfold putP wE
    generalize CC.take t = C1 at c3 n1 n2 ⊢
    generalize CC.drop (t + 1) = C2 at c4 n2 ⊢
    generalize RR.take a = R1 at c1 n3 n4 ⊢
    generalize RR.drop (a + 1) = R2 at c2 n4 ⊢
    have s1 : ∀ s, slcT (.v (.tup RR)) none (some (a : Int)) s = some (.v (.tup R1)) := fun s => by simp only [slcT, c1]
    have s2 : ∀ s, slcT (.v (.tup RR)) (some ((a : Int) + 1)) none s = some (.v (.tup R2)) := fun s => by simp only [slcT, c2]
    have s3 : ∀ s, slcT (.v (.tup CC)) none (some (t : Int)) s = some (.v (.tup C1)) := fun s => by simp only [slcT, c3]
    have s4 : ∀ s, slcT (.v (.tup CC)) (some ((t : Int) + 1)) none s = some (.v (.tup C2)) := fun s => by simp only [slcT, c4]
    have q1 : ∀ s, binT .add (.v (.tup C1)) (.v (.tup [y])) s = some (.v (.tup (C1 ++ [y]))) := fun s => by simp only [binT, List.length_cons, List.length_nil, Nat.zero_add, n1, if_true]
    have q2 : ∀ s, binT .add (.v (.tup (C1 ++ [y]))) (.v (.tup C2)) s = some (.v (.tup (C1 ++ [y] ++ C2))) := fun s => by simp only [binT, n2, if_true]
    have q3 : ∀ (z : D) s, binT .add (.v (.tup R1)) (.v (.tup [z])) s = some (.v (.tup (R1 ++ [z]))) := fun z s => by simp only [binT, List.length_cons, List.length_nil, Nat.zero_add, n3, if_true]
    have q4 : ∀ (z : D) s, binT .add (.v (.tup (R1 ++ [z]))) (.v (.tup R2)) s = some (.v (.tup (R1 ++ [z] ++ R2))) := fun z s => by simp only [binT, n4 z, if_true]
    have qa : ∀ s, binT .add (.v (.int (a : Int))) (.v (.int 1)) s = some (.v (.int ((a : Int) + 1))) := fun _ => rfl
    have qt : ∀ s, binT .add (.v (.int (t : Int))) (.v (.int 1)) s = some (.v (.int ((t : Int) + 1))) := fun _ => rfl
    generalize C1 ++ [y] ++ C2 = Z2 at q2 ⊢
    generalize C1 ++ [y] = Z1 at q1 q2
    have q3' := q3 (.tup Z2)
    have q4' := q4 (.tup Z2)
    generalize R1 ++ [D.tup Z2] ++ R2 = Y2 at q4' ⊢
    generalize R1 ++ [D.tup Z2] = Y1 at q3' q4'
    have ix : ∀ s, idxT (.v (.tup RR)) (.v (.int (a : Int))) s = some (.v (.tup CC)) := fun s => by
      have : idxT (.v (.tup RR)) (.v (.int (a : Int))) s = (L2.atI RR (a : Int)).map .v := rfl
      rw [this, har]; rfl
    generalize (a : Int) = aa at *
    generalize (t : Int) = tt at *
    generalize (m : Int) = mm at *
    simp [bentE, lcF, bindT, wipeE, evE, evEs, evEo, s1, s2, s3, s4, q1, q2, q3', q4', qa, qt, ix, hL1]) (by rw [List.length_nil, Nat.zero_add]; exact LIM_big (by omega))
  rw [List.nil_append, List.filterMap_eq_map', List.map_id'] at hlc
  have e9 : wS 6 = .asgLc 12 [("pair", 15)] (.nm 15) (.seq (.var 11)) .none (bentE "pair") := rfl
  have hi : evIt (run tbl 1000 k) (.seq (.var 11)) (wE m x2 b RR a t i beh LOT o10 (some (.loc l)) none none none none) S = .ok ⟨P, [(l, P)]⟩ S := by
    unfold wE
    generalize (m : Int) = mm
    generalize (a : Int) = aa
    generalize (t : Int) = tt
    simp [evIt, evE, itemsOf, hla]
  have hE : evE (run tbl 1000 k) (.lc [("pair", 15)] (.nm 15) (.seq (.var 11)) .none (bentE "pair")) (wE m x2 b RR a t i beh LOT o10 (some (.loc l)) none none none none) S = .ok (.l (P.map (putP RR CC a t))) S := by
    rw [evE, hi]
    exact hlc
  rw [e9, evS, hE]
  rfl
theorem w7 {S : Sto} {x2 LOT : D} {l : Nat} {B : List D} {o10 o11 : Option D} (hB : S[l]? = some (.lst B)) (hBl : B.length ≤ 1000) (har : L2.atI RR (a : Int) = some (.tup CC)) (hRl : RR.length ≤ 1000) (hCl : CC.length ≤ 1000) :
    evS (run tbl 1000 k) 1000 (wS 7) (wE m x2 b RR a t i beh LOT o10 o11 (some (.loc l)) none none none) S = .nx (wE m x2 b RR a t i beh LOT o10 o11 (some (.loc (S.length + 2))) none none none)
      (S ++ [.lst CC, .lst RR, .lst (B ++ [putR RR a (.tup (CC.drop 1)), putR RR a (.tup (CC ++ CC.take 1)), putR RR a (.loc S.length), .loc (S.length + 1), .tup [], .non])]) := by
  have hL0 : (0 : Nat) ≤ LIM := by decide
  have hL1 : (1 : Nat) ≤ LIM := by decide
  have hL6 : (6 : Nat) ≤ LIM := by decide
  have ea : ((a + 1 : Nat) : Int) = (a : Int) + 1 := by omega
  have c1 := cut_to RR a
  have c2 := cut_from RR (a + 1)
  have c3 := cut_from CC 1
  have c4 := cut_to CC 1
  rw [ea] at c2
  rw [show ((1 : Nat) : Int) = 1 from rfl] at c3 c4
  have hb : ∀ {q : Nat}, q ≤ 3000 → q ≤ LIM := fun {q} hq => LIM_big (by omega)
  have n2 : (CC.length + (CC.take 1).length) ≤ LIM := hb (by rw [List.length_take]; omega)
  have n3 : ((RR.take a).length + 1) ≤ LIM := hb (by rw [List.length_take]; omega)
  have n4 : ∀ z : D, ((RR.take a ++ [z]).length + (RR.drop (a + 1)).length) ≤ LIM := fun z => hb (by rw [List.length_append, List.length_take, List.length_drop]; simp; omega)
  have n5 : B.length + 6 ≤ LIM := hb (by omega)
  have hm1 : ∀ S', mlstOf (.v (.loc l)) (S ++ S') = some B := fun S' => by
    simp only [mlstOf]
    rw [List.getElem?_append_left (List.getElem?_eq_some_iff.mp hB).1, hB]
  unfold putR wE
  generalize CC.drop 1 = C3 at c3 ⊢
  generalize hC5 : CC ++ CC.take 1 = C5 at n2 ⊢
  have q0 : ∀ s, binT .add (.v (.tup CC)) (.v (.tup (CC.take 1))) s = some (.v (.tup C5)) := fun s => by
    have : binT .add (.v (.tup CC)) (.v (.tup (CC.take 1))) s = if CC.length + (CC.take 1).length ≤ LIM then some (.v (.tup (CC ++ CC.take 1))) else none := rfl
    rw [this, if_pos n2, hC5]
  generalize CC.take 1 = C4 at c4 q0
  generalize RR.take a = R1 at c1 n3 n4 ⊢
  generalize RR.drop (a + 1) = R2 at c2 n4 ⊢
  have s1 : ∀ s, slcT (.v (.tup RR)) none (some (a : Int)) s = some (.v (.tup R1)) := fun s => by simp only [slcT, c1]
  have s2 : ∀ s, slcT (.v (.tup RR)) (some ((a : Int) + 1)) none s = some (.v (.tup R2)) := fun s => by simp only [slcT, c2]
  have s3 : ∀ s, slcT (.v (.tup CC)) (some 1) none s = some (.v (.tup C3)) := fun s => by simp only [slcT, c3]
  have s4 : ∀ s, slcT (.v (.tup CC)) none (some 1) s = some (.v (.tup C4)) := fun s => by simp only [slcT, c4]
  have q3 : ∀ (z : D) s, binT .add (.v (.tup R1)) (.v (.tup [z])) s = some (.v (.tup (R1 ++ [z]))) := fun z s => by simp only [binT, List.length_cons, List.length_nil, Nat.zero_add, n3, if_true]
  have q4 : ∀ (z : D) s, binT .add (.v (.tup (R1 ++ [z]))) (.v (.tup R2)) s = some (.v (.tup (R1 ++ [z] ++ R2))) := fun z s => by simp only [binT, n4 z, if_true]
  have qa : ∀ s, binT .add (.v (.int (a : Int))) (.v (.int 1)) s = some (.v (.int ((a : Int) + 1))) := fun _ => rfl
  have q31 := q3 (.tup C3)
  have q41 := q4 (.tup C3)
  have q32 := q3 (.tup C5)
  have q42 := q4 (.tup C5)
  have q33 := q3 (.loc S.length)
  have q43 := q4 (.loc S.length)
  generalize R1 ++ [D.tup C3] ++ R2 = Y1 at q41 ⊢
  generalize R1 ++ [D.tup C3] = Z1 at q31 q41
  generalize R1 ++ [D.tup C5] ++ R2 = Y2 at q42 ⊢
  generalize R1 ++ [D.tup C5] = Z2 at q32 q42
  generalize R1 ++ [D.loc S.length] ++ R2 = Y3 at q43 ⊢
  generalize R1 ++ [D.loc S.length] = Z3 at q33 q43
  have hadd : ∀ S', binT .add (.v (.loc l)) (.l [.tup Y1, .tup Y2, .tup Y3, .loc (S.length + 1), .tup [], .non]) (S ++ S') = some (.l (B ++ [.tup Y1, .tup Y2, .tup Y3, .loc (S.length + 1), .tup [], .non])) := fun S' => by
    have : binT .add (.v (.loc l)) (.l [.tup Y1, .tup Y2, .tup Y3, .loc (S.length + 1), .tup [], .non]) (S ++ S') = (mlstOf (.v (.loc l)) (S ++ S')).bind fun a => if a.length + 6 ≤ LIM then some (.l (a ++ [.tup Y1, .tup Y2, .tup Y3, .loc (S.length + 1), .tup [], .non])) else none := rfl
    rw [this, hm1]
    simp only [Option.bind_some, n5, if_true]
  generalize B ++ [.tup Y1, .tup Y2, .tup Y3, .loc (S.length + 1), .tup [], .non] = BB at hadd ⊢
  have hadd2 := hadd [.lst CC, .lst RR]
  have ix : ∀ s, idxT (.v (.tup RR)) (.v (.int (a : Int))) s = some (.v (.tup CC)) := fun s => by
    have : idxT (.v (.tup RR)) (.v (.int (a : Int))) s = (L2.atI RR (a : Int)).map .v := rfl
    rw [this, har]; rfl
  have hli : ∀ xs s, biT .list [.v (.tup xs)] s = some (.l xs) := fun _ _ => rfl
  generalize (a : Int) = aa at *
  generalize (t : Int) = tt at *
  generalize (m : Int) = mm at *
  simp [wS, f__law_wrong, nth, evS, evE, evEs, evTs, evEo, s1, s2, s3, s4, q0, q31, q41, q32, q42, q33, q43, qa, ix, hli, hL0, hL1, hL6, hadd2, bindT]
theorem w8 {S : Sto} {x2 LOT : D} {l : Nat} {B : List D} {o10 o11 : Option D} (hB : S[l]? = some (.lst B)) (hBl : B.length ≤ 1000) :
    evS (run tbl 1000 k) 1000 (wS 8) (wE m x2 b RR a t i beh LOT o10 o11 (some (.loc l)) none none none) S = .nx (wE m x2 b RR a t i beh LOT o10 o11 (some (.loc l)) (some (.loc S.length)) none none) (S ++ [.lst (B.map fun y => .tup [.int b, y])]) := by
  have hL2 : (2 : Nat) ≤ LIM := by decide
  have hla : lstAt l S = some B := by simp only [lstAt, hB]
  have hst : stands [(l, B)] S = true := by simp [stands, hla]
  have hlc := lc_pureS (F := lcF (.nm 14) [14] (wE m x2 b RR a t i beh LOT o10 o11 (some (.loc l)) none none none) (fun _ s => .ok true s) (evE (run tbl 1000 k) (.tup (.cons (.var 3) (.cons (.var 14) .nil))))) (A := fun y : D => y) (G := fun y => some (.tup [.int b, y])) hst B [] (fun y _ => by
    unfold wE
    generalize (a : Int) = aa
    generalize (t : Int) = tt
    generalize (m : Int) = mm
    simp [lcF, bindT, wipeE, evE, evEs, hL2]) (by rw [List.length_nil, Nat.zero_add]; exact LIM_big (by omega))
  rw [List.nil_append, List.filterMap_eq_map', List.map_id'] at hlc
  have e9 : wS 8 = .asgLc 13 [("one", 14)] (.nm 14) (.seq (.var 12)) .none (.tup (.cons (.var 3) (.cons (.var 14) .nil))) := rfl
  have hi : evIt (run tbl 1000 k) (.seq (.var 12)) (wE m x2 b RR a t i beh LOT o10 o11 (some (.loc l)) none none none) S = .ok ⟨B, [(l, B)]⟩ S := by
    unfold wE
    generalize (m : Int) = mm
    generalize (a : Int) = aa
    generalize (t : Int) = tt
    simp [evIt, evE, itemsOf, hla]
  have hE : evE (run tbl 1000 k) (.lc [("one", 14)] (.nm 14) (.seq (.var 12)) .none (.tup (.cons (.var 3) (.cons (.var 14) .nil)))) (wE m x2 b RR a t i beh LOT o10 o11 (some (.loc l)) none none none) S = .ok (.l (B.map fun y => .tup [.int b, y])) S := by
    rw [evE, hi]
    exact hlc
  rw [e9, evS, hE]
  rfl
theorem w9 {S S' : Sto} {x2 LOT y : D} {l : Nat} {B : List D} {o10 o11 o12 : Option D} (hB : S[l]? = some (.lst B)) (hBl : B.length ≤ 1000) (hl : RR.length = n)
    (hone : run tbl 1000 k "_law_one" [.loc 0, .loc (S.length + 1)] (S ++ [.lst [.int b, .tup RR], .lst (B ++ [.tup [.int n, .tup RR], .tup [.int (-1), .tup RR], .tup [.non, .tup RR], .tup [.int b], .tup [.int b, .tup RR, .int 0], .loc S.length, .non, .tup RR])]) = .ok (.v y) S') :
    evS (run tbl 1000 k) 1000 (wS 9) (wE m x2 b RR a t i beh LOT o10 o11 o12 (some (.loc l)) none none) S = .rt (.v y) S' := by
  have hL1 : (1 : Nat) ≤ LIM := by decide
  have hL2 : (2 : Nat) ≤ LIM := by decide
  have hL3 : (3 : Nat) ≤ LIM := by decide
  have hL8 : (8 : Nat) ≤ LIM := by decide
  have n5 : B.length + 8 ≤ LIM := LIM_big (by omega)
  have hm1 : ∀ S', mlstOf (.v (.loc l)) (S ++ S') = some B := fun S' => by
    simp only [mlstOf]
    rw [List.getElem?_append_left (List.getElem?_eq_some_iff.mp hB).1, hB]
  have hln : ∀ s, biT .len [.v (.tup RR)] s = some (.v (.int (n : Int))) := fun s => by simp only [biT, seqOf, Option.map_some, hl]
  have hadd : ∀ S', binT .add (.v (.loc l)) (.l [.tup [.int n, .tup RR], .tup [.int (-1), .tup RR], .tup [.non, .tup RR], .tup [.int b], .tup [.int b, .tup RR, .int 0], .loc S.length, .non, .tup RR]) (S ++ S') = some (.l (B ++ [.tup [.int n, .tup RR], .tup [.int (-1), .tup RR], .tup [.non, .tup RR], .tup [.int b], .tup [.int b, .tup RR, .int 0], .loc S.length, .non, .tup RR])) := fun S' => by
    have : binT .add (.v (.loc l)) (.l [.tup [.int n, .tup RR], .tup [.int (-1), .tup RR], .tup [.non, .tup RR], .tup [.int b], .tup [.int b, .tup RR, .int 0], .loc S.length, .non, .tup RR]) (S ++ S') = (mlstOf (.v (.loc l)) (S ++ S')).bind fun a => if a.length + 8 ≤ LIM then some (.l (a ++ [.tup [.int n, .tup RR], .tup [.int (-1), .tup RR], .tup [.non, .tup RR], .tup [.int b], .tup [.int b, .tup RR, .int 0], .loc S.length, .non, .tup RR])) else none := rfl
    rw [this, hm1]
    simp only [Option.bind_some, n5, if_true]
  have hadd2 := hadd [.lst [.int b, .tup RR]]
  generalize B ++ [.tup [.int n, .tup RR], .tup [.int (-1), .tup RR], .tup [.non, .tup RR], .tup [.int b], .tup [.int b, .tup RR, .int 0], .loc S.length, .non, .tup RR] = BB at hadd2 hone
  unfold wE
  generalize (n : Int) = nn at *
  generalize (a : Int) = aa at *
  generalize (t : Int) = tt at *
  generalize (m : Int) = mm at *
  simp [wS, f__law_wrong, nth, evS, evE, evEs, evTs, hln, hL1, hL2, hL3, hL8, hadd2, hone]
end
end K61
end
section
set_option maxRecDepth 100000
set_option maxHeartbeats 2000000
set_option linter.unusedSimpArgs false
namespace K61
open Fy
open PySem (PyData)
/-! ### what is no machine -/
theorem it_up {h : Nat} {d : D} (q : IT h d) : IT (h + 1) d := .inl q
theorem it_pr (p : Int × Int) : IT 1 (pr p) := .inr ⟨[.int p.1, .int p.2], rfl, by simp, by simp, fun x hx => by
  simp only [List.mem_cons, List.not_mem_nil, or_false] at hx
  rcases hx with rfl | rfl
  · exact ⟨_, rfl⟩
  · exact ⟨_, rfl⟩⟩
theorem it_row {m : Nat} (h1 : 1 ≤ m) (hm : m ≤ 5) {row : List (Int × Int)} (hl : row.length = 2 ^ m - 1) : IT 2 (rowD row) := by
  have hp := two_pow hm
  have h2 : 2 ≤ 2 ^ m := by
    have := Nat.pow_le_pow_right (show 0 < 2 by decide) h1
    simpa using this
  refine .inr ⟨row.map pr, rfl, ?_, by rw [List.length_map]; omega, fun x hx => ?_⟩
  · intro e
    have := congrArg List.length e
    rw [List.length_map] at this
    simp at this
    rw [this] at hl
    simp at hl
    omega
  · obtain ⟨p, _, rfl⟩ := List.mem_map.mp hx
    exact it_pr p
theorem it_rows {m n : Nat} {b : Int} {M : List (List (Int × Int))} (h : Mach m n b M) (h1 : 1 ≤ m) (hm : m ≤ 5) : ∀ x ∈ M.map rowD, IT 2 x := fun x hx => by
  obtain ⟨row, hr, rfl⟩ := List.mem_map.mp hx
  exact it_row h1 hm (h.rows row hr)
theorem it_RR {m n : Nat} {b : Int} {M : List (List (Int × Int))} (h : Mach m n b M) (h1 : 1 ≤ m) (hm : m ≤ 5) : IT 3 (.tup (M.map rowD)) := by
  refine .inr ⟨M.map rowD, rfl, fun e => ?_, by rw [List.length_map, h.len]; have := h.n9; omega, it_rows h h1 hm⟩
  have := congrArg List.length e
  rw [List.length_map, h.len] at this
  have := h.n1
  simp at *
  omega
theorem it_mD {m n : Nat} {b : Int} {M : List (List (Int × Int))} (h : Mach m n b M) (h1 : 1 ≤ m) (hm : m ≤ 5) : IT 4 (mD b M) := .inr ⟨[.int b, .tup (M.map rowD)], rfl, by simp, by simp, fun x hx => by
  simp only [List.mem_cons, List.not_mem_nil, or_false] at hx
  rcases hx with rfl | rfl
  · exact .inl (.inl (.inl ⟨_, rfl⟩))
  · exact it_RR h h1 hm⟩
theorem memB_at {m : Nat} {n : Int} {ps : List D} {t : Nat} {y : D} (h : ps[t]? = some y) (hb : pairB m n t y = false) : memB m n (.tup ps) = false := by
  have : (ps.zipIdx.all fun p => pairB m n p.2 p.1) = false := by
    rw [List.all_eq_false]
    refine ⟨(y, t), ?_, by simp [hb]⟩
    exact List.mk_mem_zipIdx_iff_getElem?.mpr h
  simp only [memB, this, Bool.and_false]
theorem machB_row {m : Nat} {x y : D} {rows : List D} (h : y ∈ rows) (hb : memB m (rows.length : Nat) y = false) : machB m (.tup [x, .tup rows]) = false := by
  have : (rows.all fun row => memB m (rows.length : Nat) row) = false := by
    rw [List.all_eq_false]
    exact ⟨y, h, by simp [hb]⟩
  simp only [machB, this, Bool.and_false]
theorem machB_num {m : Nat} {x : D} {rows : List D} (h : num (some ((rows.length : Nat) - 1)) x = false) : machB m (.tup [x, .tup rows]) = false := by
  simp only [machB, h, Bool.false_and, Bool.and_false]
theorem put_len {RR : List D} {a : Nat} (ha : a < RR.length) (y : D) : (RR.take a ++ [y] ++ RR.drop (a + 1)).length = RR.length := by simp; omega
theorem put_at {RR : List D} {a : Nat} (ha : a < RR.length) (y : D) : (RR.take a ++ [y] ++ RR.drop (a + 1))[a]? = some y := by
  rw [List.append_assoc, List.getElem?_append_right (by simp; omega)]
  have : a - (RR.take a).length = 0 := by simp; omega
  rw [this]
  rfl
theorem put_mem {RR : List D} {a : Nat} (y : D) : y ∈ RR.take a ++ [y] ++ RR.drop (a + 1) := by simp
theorem put_vd {S : Sto} {RR : List D} {a : Nat} {y : D} (h : vds S RR = true) (hy : vd S y = true) : vds S (RR.take a ++ [y] ++ RR.drop (a + 1)) = true := vds_of fun x hx => by
  simp only [List.mem_append, List.mem_cons, List.not_mem_nil, or_false] at hx
  rcases hx with (hx | rfl) | hx
  · exact vds_mem h x (List.mem_of_mem_take hx)
  · exact hy
  · exact vds_mem h x (List.mem_of_mem_drop hx)
section
variable {m n : Nat} {b : Int} {M : List (List (Int × Int))} {a t : Nat} {row : List (Int × Int)} {p : Int × Int}
def inLot (m t : Nat) : D → Bool
  | .int x => decide (x ∈ lotAt m (t + 1))
  | _ => false
theorem pairB_two {q : Int} {x y : D} : pairB m q t (.tup [x, y]) = (num none x && (num (some (q - 1)) y && inLot m t x)) := by cases x <;> rfl
theorem outs_bad {x0 : D} (hx : x0 ∈ outsD m t) (S : Sto) : (num none x0 && inLot m t x0) = false ∧ vd S x0 = true := by
  simp only [outsD, List.mem_append, List.mem_map, List.mem_cons, List.not_mem_nil, or_false] at hx
  rcases hx with ⟨x, hx', rfl⟩ | rfl | rfl | rfl
  · unfold outs at hx'
    have := (List.mem_filter.mp hx').2
    simp only [decide_eq_true_eq] at this
    exact ⟨by simp [inLot, this], rfl⟩
  · have : (m : Int) ∉ lotAt m (t + 1) := fun z => by have := lot_mem z; omega
    exact ⟨by simp [inLot, this], rfl⟩
  · exact ⟨by simp [num], rfl⟩
  · exact ⟨rfl, rfl⟩
theorem pairs_bad {x0 : D} {i beh : Int} {l : Nat} {S : Sto} (hl : (lstAt l S).isSome = true) (hx : x0 ∈ outsD m t) : ∀ y ∈ pairsD x0 i beh n l, pairB m n t y = false ∧ vd S y = true := by
  intro y hy
  have h0 := outs_bad hx S
  simp only [pairsD, List.mem_cons, List.not_mem_nil, or_false] at hy
  rcases hy with rfl | rfl | rfl | rfl | rfl | rfl | rfl | rfl
  · refine ⟨?_, by simp [vd, vds, h0.2]⟩
    rw [pairB_two]
    have h1 := h0.1
    cases hn : num none x0 with
    | false => rfl
    | true =>
      rw [hn, Bool.true_and] at h1
      rw [h1, Bool.and_false, Bool.and_false]
  · exact ⟨by simp [pairB, num]; omega, rfl⟩
  · exact ⟨by simp [pairB, num], rfl⟩
  · exact ⟨by simp [pairB, num], rfl⟩
  · exact ⟨rfl, rfl⟩
  · exact ⟨rfl, rfl⟩
  · exact ⟨rfl, by simpa [vd] using hl⟩
  · exact ⟨rfl, rfl⟩
theorem bent_bad (h : Mach m n b M) (h1 : 1 ≤ m) (hm : m ≤ 5) (er : M[a]? = some row) (ht : t < 2 ^ m - 1) {S : Sto} {P : List D} (hP : ∀ y ∈ P, pairB m n t y = false ∧ vd S y = true) {l1 l2 : Nat} (h5 : (lstAt l1 S).isSome = true) (h6 : (lstAt l2 S).isSome = true) :
    ∀ y ∈ bentD (M.map rowD) (row.map pr) a t P l1 l2, machB m (.tup [.int b, y]) = false ∧ vd S y = true := by
  intro y hy
  obtain ⟨ha, ea⟩ := List.getElem?_eq_some_iff.mp er
  have mr : row ∈ M := ea ▸ List.getElem_mem ha
  have lr := h.rows row mr
  have hn := h.len
  have haR : a < (M.map rowD).length := by rw [List.length_map]; exact ha
  have htC : t < (row.map pr).length := by rw [List.length_map]; omega
  have vR : vds S (M.map rowD) = true := vds_of fun x hx => it_vd S 2 x (it_rows h h1 hm x hx)
  have vC : vds S (row.map pr) = true := vds_of fun x hx => by
    obtain ⟨q, _, rfl⟩ := List.mem_map.mp hx
    exact it_vd S 1 _ (it_pr q)
  have key : ∀ z : D, memB m (n : Int) z = false → machB m (.tup [.int b, putR (M.map rowD) a z]) = false := fun z hz => by
    refine machB_row (put_mem z) ?_
    rw [put_len haR, List.length_map, hn]
    exact hz
  simp only [bentD, List.mem_append, List.mem_map, List.mem_cons, List.not_mem_nil, or_false] at hy
  rcases hy with ⟨y, hy, rfl⟩ | rfl | rfl | rfl | rfl | rfl | rfl
  · obtain ⟨q1, q2⟩ := hP y hy
    refine ⟨key _ (memB_at (put_at htC y) q1), ?_⟩
    simp only [putP, vd]
    exact put_vd vR (by simp only [vd]; exact put_vd vC q2)
  · refine ⟨key _ ?_, ?_⟩
    · have : ¬ ((row.map pr).drop 1).length = 2 ^ m - 1 := by rw [List.length_drop, List.length_map]; omega
      simp only [memB, this, decide_false, Bool.false_and]
    · simp only [putR, vd]
      exact put_vd vR (by simp only [vd]; exact vds_of fun x hx => vds_mem vC x (List.mem_of_mem_drop hx))
  · refine ⟨key _ ?_, ?_⟩
    · have : ¬ ((row.map pr) ++ (row.map pr).take 1).length = 2 ^ m - 1 := by rw [List.length_append, List.length_take, List.length_map]; omega
      simp only [memB, this, decide_false, Bool.false_and]
    · simp only [putR, vd]
      refine put_vd vR ?_
      simp only [vd]
      exact vds_of fun x hx => by
        rcases List.mem_append.mp hx with hx | hx
        · exact vds_mem vC x hx
        · exact vds_mem vC x (List.mem_of_mem_take hx)
  · exact ⟨key _ rfl, by simp only [putR, vd]; exact put_vd vR (by simpa [vd] using h5)⟩
  · exact ⟨rfl, by simpa [vd] using h6⟩
  · exact ⟨by simp [machB, siz], rfl⟩
  · exact ⟨rfl, rfl⟩
theorem odd_bad (h : Mach m n b M) (h1 : 1 ≤ m) (hm : m ≤ 5) {S : Sto} {B : List D} (hB : ∀ y ∈ B, machB m (.tup [.int b, y]) = false ∧ vd S y = true) {l : Nat} (hl : (lstAt l S).isSome = true) :
    ∀ y ∈ oddD b n (M.map rowD) B l, machB m y = false ∧ vd S y = true ∧ ∀ q, y = .loc q → q = l := by
  intro y hy
  have vR : vds S (M.map rowD) = true := vds_of fun x hx => it_vd S 2 x (it_rows h h1 hm x hx)
  have hn := h.len
  have hn1 := h.n1
  simp only [oddD, List.mem_append, List.mem_map, List.mem_cons, List.not_mem_nil, or_false] at hy
  rcases hy with ⟨y, hy, rfl⟩ | rfl | rfl | rfl | rfl | rfl | rfl | rfl | rfl
  · obtain ⟨q1, q2⟩ := hB y hy
    exact ⟨q1, by simp [vd, vds, q2], fun q e => by cases e⟩
  · have hnn : ¬ ((n : Int) ≤ (n : Int) - 1) := by omega
    exact ⟨machB_num (by simp only [num, List.length_map, hn, hnn, decide_false, Bool.and_false]), by simp [vd, vds, vR], fun q e => by cases e⟩
  · exact ⟨machB_num (by simp [num]), by simp [vd, vds, vR], fun q e => by cases e⟩
  · exact ⟨machB_num rfl, by simp [vd, vds, vR], fun q e => by cases e⟩
  · exact ⟨rfl, rfl, fun q e => by cases e⟩
  · exact ⟨rfl, by simp [vd, vds, vR], fun q e => by cases e⟩
  · exact ⟨rfl, by simpa [vd] using hl, fun q e => by cases e; rfl⟩
  · exact ⟨rfl, rfl, fun q e => by cases e⟩
  · refine ⟨?_, by simpa [vd] using vR, fun q e => by cases e⟩
    match M with
    | [] => rfl
    | [_] => rfl
    | [r0, r1] => exact machB_num rfl
    | _ :: _ :: _ :: _ => simp [machB]
end
theorem lst_app {S x : Sto} {l : Nat} (h : (lstAt l S).isSome = true) : (lstAt l (S ++ x)).isSome = true := by
  unfold lstAt at h ⊢
  by_cases hl : l < S.length
  · rw [List.getElem?_append_left hl]; exact h
  · rw [List.getElem?_eq_none (by omega)] at h; cases h
theorem putP_vd {S : Sto} {RR CC : List D} {a t : Nat} {y : D} (vR : vds S RR = true) (vC : vds S CC = true) (hy : vd S y = true) : vd S (putP RR CC a t y) = true := by
  simp only [putP, vd]
  exact put_vd vR (by simp only [vd]; exact put_vd vC hy)
theorem lst_lt {S : Sto} {l : Nat} (h : (lstAt l S).isSome = true) : l < S.length := by
  by_cases hl : l < S.length
  · exact hl
  · unfold lstAt at h
    rw [List.getElem?_eq_none (by omega)] at h
    cases h
theorem vd_under {S : Sto} : ∀ {d : D}, vd S d = true → D.under S.length d = true := by
  suffices key : ∀ (d : D), (vd S d = true → D.under S.length d = true) from fun {d} => key d
  intro d
  induction d using D.rec (motive_2 := fun ds => vds S ds = true → D.unders S.length ds = true) with
  | non => intros; rfl
  | bl _ => intros; rfl
  | int _ => intros; rfl
  | str _ => intros; rfl
  | tup xs ih => intro h; exact ih h
  | fro xs _ => intro h; cases h
  | loc m => intro h; simp only [vd] at h; simp only [D.under, decide_eq_true_eq]; exact lst_lt h
  | ty _ => intro h; cases h
  | gl _ => intro h; cases h
  | nil => intros; rfl
  | cons x xs h1 h2 =>
    rename_i h
    simp only [vds, D.unders, Bool.and_eq_true] at h ⊢
    exact ⟨h1 h.1, h2 h.2⟩
theorem Cl.more {R : Sto} (h : Cl R) (w : Int × Int × Int) {xs : List D} (hv : ∀ x ∈ xs, vd (Wl w R) x = true) : Cl (R ++ [.lst xs]) :=
  h.snoc (by simp only [O.under]; exact unders_all fun x hx => vd_under (S := Wl w R) (hv x hx))
theorem lst_in (w : Int × Int × Int) (A B : Sto) (xs : List D) : (lstAt (A.length + 1) (Wl w (A ++ (.lst xs :: B)))).isSome = true := by simp [lstAt, Wl_s]
theorem get_in (w : Int × Int × Int) (A B : Sto) (o : O) : (Wl w (A ++ (o :: B)))[A.length + 1]? = some o := by simp [Wl_s]
/-- the results of a call are no machine -/
def NoM (m : Nat) (c : Int) : (Int × Int × Int) → Sto → D → Prop := fun w' S d => Ok c w' ∧ vd S d = true ∧ machB m d = false
theorem wS0 {b : Int} {M : List (List (Int × Int))} (cf : CallF) (S : Sto) (x0 x1 : D) (o5 o6 o7 o8 o9 o10 o11 o12 o13 o14 o15 : Option D) : evS cf 1000 (wS 0) [some x0, some x1, some (mD b M), none, none, o5, o6, o7, o8, o9, o10, o11, o12, o13, o14, o15] S = .nx [some x0, some x1, some (mD b M), some (.int b), some (.tup (M.map rowD)), o5, o6, o7, o8, o9, o10, o11, o12, o13, o14, o15] S := by
  have bt : bindT (.tp (.cons (.nm 3) (.cons (.nm 4) .nil))) (mD b M) [some x0, some x1, some (mD b M), none, none, o5, o6, o7, o8, o9, o10, o11, o12, o13, o14, o15] = some [some x0, some x1, some (mD b M), some (.int b), some (.tup (M.map rowD)), o5, o6, o7, o8, o9, o10, o11, o12, o13, o14, o15] := rfl
  have e9 : wS 0 = .asg (.tp (.cons (.nm 3) (.cons (.nm 4) .nil))) (.var 2) := rfl
  rw [e9]
  generalize mD b M = MD at *
  simp [evS, evE, bt]
theorem law_wrong (k : Nat) {m n : Nat} {b : Int} {M : List (List (Int × Int))} (h : Mach m n b M) (h1 : 1 ≤ m) (hm : m ≤ 5) {r : Sto} (hr : Cl r) {c : Int} {w : Int × Int × Int} (hw : Ok c w) (hc : c + 10 ≤ 1000000000) :
    Kept w r (run tbl 1000 (k+4) "_law_wrong" [.loc 0, .int (m : Int), mD b M] (Wl w r)) (NoM m (c + 10)) := by
  have hp2 := two_pow hm
  have hn9 := h.n9
  have hn1 := h.n1
  have h2 : 2 ≤ 2 ^ m := by
    have := Nat.pow_le_pow_right (show 0 < 2 by decide) h1
    simpa using this
  obtain ⟨row0, er0, mr0, ar0⟩ := m_row (M := M) (i := 0) (by omega) (by rw [h.len]; omega)
  have l0 := h.rows row0 mr0
  obtain ⟨a, w1, a0, an, o1, e1⟩ := dip (k+2) (m := (n : Int)) hw (by omega) (by omega) (by omega) hr
  obtain ⟨t, w2, t0, tn, o2, e2⟩ := dip (k+2) (m := ((2 ^ m - 1 : Nat) : Int)) o1 (by omega) (by omega) (by omega) hr
  obtain ⟨a, rfl⟩ := Int.eq_ofNat_of_zero_le a0
  obtain ⟨t, rfl⟩ := Int.eq_ofNat_of_zero_le t0
  obtain ⟨row, er, mr, ar⟩ := m_row (M := M) (i := (a : Int)) (by omega) (by rw [h.len]; omega)
  rw [Int.toNat_natCast] at er
  have lr := h.rows row mr
  have ht : t < 2 ^ m - 1 := by omega
  obtain ⟨p, ep, ap⟩ := r_at (row := row) (j := t) (by omega)
  have hlots := law_lots (k+2) (w := w2) hr h1 hm
  have elot : L2.atI (lotsD m) (t : Int) = some (lotD (lotAt m (t + 1))) := L2.atI_nat (by simp [lotsD, lots, ht])
  have lR : (M.map rowD).length = n := by rw [List.length_map, h.len]
  have lC : (row.map pr).length = 2 ^ m - 1 := by rw [List.length_map, lr]
  have vR : vds (Wl w2 r) (M.map rowD) = true := vds_of fun x hx => it_vd _ 2 x (it_rows h h1 hm x hx)
  have uR : D.unders 0 (M.map rowD) = true := unders_all fun x hx => it_under 2 x (it_rows h h1 hm x hx)
  have uC : D.unders 0 (row.map pr) = true := unders_all fun x hx => by
    obtain ⟨q, _, rfl⟩ := List.mem_map.mp hx
    exact it_under 1 _ (it_pr q)
  -- the first statements
  have st1 : evS (run tbl 1000 (k+3)) 1000 (wS 1) [some (.loc 0), some (.int (m : Int)), some (mD b M), some (.int b), some (.tup (M.map rowD)), none, none, none, none, none, none, none, none, none, none, none] (Wl w r) = .nx [some (.loc 0), some (.int (m : Int)), some (mD b M), some (.int b), some (.tup (M.map rowD)), some (.int (a : Int)), some (.int (t : Int)), none, none, none, none, none, none, none, none, none] (Wl w2 r) := by
    have hl1 : ∀ s, biT .len [.v (.tup (M.map rowD))] s = some (.v (.int (n : Int))) := fun s => by simp only [biT, seqOf, Option.map_some, lR]
    have hl2 : ∀ s, biT .len [.v (rowD row0)] s = some (.v (.int ((2 ^ m - 1 : Nat) : Int))) := fun s => by simp only [biT, rowD, seqOf, Option.map_some, List.length_map, l0]
    have hix : ∀ s, idxT (.v (.tup (M.map rowD))) (.v (.int 0)) s = some (.v (rowD row0)) := fun s => by
      have : idxT (.v (.tup (M.map rowD))) (.v (.int 0)) s = (L2.atI (M.map rowD) 0).map .v := rfl
      rw [this, ar0]; rfl
    have hL2 : (2 : Nat) ≤ LIM := by decide
    have bt : ∀ (x2 x4 : D), bindT (.tp (.cons (.nm 5) (.cons (.nm 6) .nil))) (.tup [.int (a : Int), .int (t : Int)]) [some (.loc 0), some (.int (m : Int)), some x2, some (.int b), some x4, none, none, none, none, none, none, none, none, none, none, none] = some [some (.loc 0), some (.int (m : Int)), some x2, some (.int b), some x4, some (.int (a : Int)), some (.int (t : Int)), none, none, none, none, none, none, none, none, none] := fun _ _ => rfl
    have e9 : wS 1 = .asg (.tp (.cons (.nm 5) (.cons (.nm 6) .nil))) (.tup (.cons (.call "_law_dip" (.cons (.var 0) (.cons (.bi .len (.cons (.var 4) .nil)) .nil))) (.cons (.call "_law_dip" (.cons (.var 0) (.cons (.bi .len (.cons (.idx (.var 4) (.int 0)) .nil)) .nil))) .nil))) := rfl
    rw [e9]
    generalize rowD row0 = R0 at *
    generalize mD b M = MD at *
    generalize M.map rowD = RR at *
    generalize (m : Int) = mm at *
    generalize (n : Int) = nn at *
    generalize ((2 ^ m - 1 : Nat) : Int) = qq at *
    generalize (a : Int) = aa at *
    generalize (t : Int) = tt at *
    simp [evS, evE, evEs, evTs, hl1, hl2, hix, e1, e2, hL2, bt]
  have st2 : evS (run tbl 1000 (k+3)) 1000 (wS 2) [some (.loc 0), some (.int (m : Int)), some (mD b M), some (.int b), some (.tup (M.map rowD)), some (.int (a : Int)), some (.int (t : Int)), none, none, none, none, none, none, none, none, none] (Wl w2 r) = .nx [some (.loc 0), some (.int (m : Int)), some (mD b M), some (.int b), some (.tup (M.map rowD)), some (.int (a : Int)), some (.int (t : Int)), some (.int p.1), some (.int p.2), none, none, none, none, none, none, none] (Wl w2 r) := by
    have ix1 : ∀ s, idxT (.v (.tup (M.map rowD))) (.v (.int (a : Int))) s = some (.v (.tup (row.map pr))) := fun s => by
      have : idxT (.v (.tup (M.map rowD))) (.v (.int (a : Int))) s = (L2.atI (M.map rowD) (a : Int)).map .v := rfl
      rw [this, ar]; rfl
    have ix2 : ∀ s, idxT (.v (.tup (row.map pr))) (.v (.int (t : Int))) s = some (.v (pr p)) := fun s => by
      have : idxT (.v (.tup (row.map pr))) (.v (.int (t : Int))) s = (L2.atI (row.map pr) (t : Int)).map .v := rfl
      rw [this, ap]; rfl
    have bt : ∀ (x1 x2 x4 x5 x6 : D), bindT (.tp (.cons (.nm 7) (.cons (.nm 8) .nil))) (pr p) [some (.loc 0), some x1, some x2, some (.int b), some x4, some x5, some x6, none, none, none, none, none, none, none, none, none] = some [some (.loc 0), some x1, some x2, some (.int b), some x4, some x5, some x6, some (.int p.1), some (.int p.2), none, none, none, none, none, none, none] := fun _ _ _ _ _ => rfl
    have e9 : wS 2 = .asg (.tp (.cons (.nm 7) (.cons (.nm 8) .nil))) (.idx (.idx (.var 4) (.var 5)) (.var 6)) := rfl
    rw [e9]
    generalize pr p = PP at *
    generalize row.map pr = CC at *
    generalize mD b M = MD at *
    generalize M.map rowD = RR at *
    generalize (m : Int) = mm at *
    generalize (a : Int) = aa at *
    generalize (t : Int) = tt at *
    simp [evS, evE, ix1, ix2, bt]
  have st3 : evS (run tbl 1000 (k+3)) 1000 (wS 3) [some (.loc 0), some (.int (m : Int)), some (mD b M), some (.int b), some (.tup (M.map rowD)), some (.int (a : Int)), some (.int (t : Int)), some (.int p.1), some (.int p.2), none, none, none, none, none, none, none] (Wl w2 r) = .nx (wE m (mD b M) b (M.map rowD) a t p.1 p.2 (lotD (lotAt m (t + 1))) none none none none none none) (Wl w2 r) := by
    have ix1 : ∀ s, idxT (.l (lotsD m)) (.v (.int (t : Int))) s = some (.v (lotD (lotAt m (t + 1)))) := fun s => by
      have : idxT (.l (lotsD m)) (.v (.int (t : Int))) s = (L2.atI (lotsD m) (t : Int)).map .v := rfl
      rw [this, elot]; rfl
    have e9 : wS 3 = .asg (.nm 9) (.idx (.call "_law_lots" (.cons (.var 1) .nil)) (.var 6)) := rfl
    rw [e9]
    unfold wE
    generalize lotD (lotAt m (t + 1)) = LD at *
    generalize lotsD m = LL at *
    generalize mD b M = MD at *
    generalize M.map rowD = RR at *
    generalize (m : Int) = mm at *
    generalize (a : Int) = aa at *
    generalize (t : Int) = tt at *
    simp [evS, evE, evEs, hlots, ix1, bindT]
  have hR0 : ∀ (w : Int × Int × Int) (R : Sto), vds (Wl w R) (M.map rowD) = true := fun w R => vds_of fun x hx => it_vd _ 2 x (it_rows h h1 hm x hx)
  have hC0 : ∀ (w : Int × Int × Int) (R : Sto), vds (Wl w R) (row.map pr) = true := fun w R => vds_of fun x hx => by
    obtain ⟨q, _, rfl⟩ := List.mem_map.mp hx
    exact it_vd _ 1 _ (it_pr q)
  have st4 := w4 (k+3) (S := Wl w2 r) (x2 := mD b M) (RR := M.map rowD) (a := a) (t := t) (b := b) (i := p.1) (beh := p.2) hm
  -- the store grows
  obtain ⟨R1, hR1⟩ : ∃ R1, R1 = r ++ [O.lst (outsD m t)] := ⟨_, rfl⟩
  have c1 : Cl R1 := by rw [hR1]; exact hr.more w2 fun x hx => (outs_bad hx _).2
  have len1 : R1.length = r.length + 1 := by rw [hR1]; simp
  have hout : (outsD m t) ≠ [] := by simp [outsD]
  have houtl : (outsD m t).length < 100000 := by
    have : (outs m t).length ≤ m := by
      unfold outs
      exact Nat.le_trans (List.length_filter_le _ _) (by simp)
    simp only [outsD, List.length_append, List.length_map, List.length_cons, List.length_nil]
    omega
  obtain ⟨i0, x0, w3, hx0, o3, e3⟩ := one' (k+1) (j := r.length) (xs := outsD m t) o2 (by omega) c1 (by rw [hR1]; simp) hout houtl
  have mx0 : x0 ∈ outsD m t := List.mem_of_getElem? hx0
  have s1 : Wl w2 r ++ [O.lst (outsD m t)] = Wl w2 R1 := by rw [hR1]; rfl
  rw [s1] at st4
  have lw2 : (Wl w2 r).length = r.length + 1 := rfl
  rw [lw2] at st4
  have st5 := w5 (k+3) (m := m) (x2 := mD b M) (LOT := lotD (lotAt m (t + 1))) (b := b) (a := a) (t := t) (i := p.1) (beh := p.2) lR e3
  obtain ⟨P, hP⟩ : ∃ P, P = pairsD x0 p.1 p.2 (n : Int) (Wl w3 R1).length := ⟨_, rfl⟩
  rw [← hP] at st5
  have pbad : ∀ S : Sto, (lstAt (Wl w3 R1).length S).isSome = true → ∀ y ∈ P, pairB m n t y = false ∧ vd S y = true := fun S hS => by rw [hP]; exact pairs_bad hS mx0
  have lP : P.length = 8 := by rw [hP]; rfl
  obtain ⟨R2, hR2⟩ : ∃ R2, R2 = R1 ++ [O.lst [.int p.1, .int p.2], .lst P] := ⟨_, rfl⟩
  have s2 : Wl w3 R1 ++ [O.lst [.int p.1, .int p.2], .lst P] = Wl w3 R2 := by rw [hR2]; rfl
  rw [s2] at st5
  have c2 : Cl R2 := by
    have e : R2 = (R1 ++ [.lst [.int p.1, .int p.2]]) ++ [.lst P] := by rw [hR2]; simp
    rw [e]
    refine (c1.more w3 fun x hx => ?_).more w3 fun x hx => (pbad _ (lst_in w3 R1 [] _) x hx).2
    simp only [List.mem_cons, List.not_mem_nil, or_false] at hx
    rcases hx with rfl | rfl <;> rfl
  have lw3 : (Wl w3 R1).length = R1.length + 1 := rfl
  have g6 : (Wl w3 R2)[(Wl w3 R1).length + 1]? = some (.lst P) := by
    have e : R2 = (R1 ++ [.lst [.int p.1, .int p.2]]) ++ (.lst P :: []) := by rw [hR2]; simp
    have := get_in w3 (R1 ++ [.lst [.int p.1, .int p.2]]) [] (.lst P)
    rw [e]
    rw [show (R1 ++ [O.lst [.int p.1, .int p.2]]).length + 1 = (Wl w3 R1).length + 1 by rw [lw3]; simp] at this
    exact this
  have st6 := w6 (k+3) (m := m) (x2 := mD b M) (LOT := lotD (lotAt m (t + 1))) (b := b) (i := p.1) (beh := p.2) (t := t) (o10 := some (.loc (r.length + 1))) g6 (by omega) ar (by rw [lR]; omega) (by rw [lC]; omega)
  obtain ⟨PP, hPP⟩ : ∃ PP, PP = P.map (putP (M.map rowD) (row.map pr) a t) := ⟨_, rfl⟩
  rw [← hPP] at st6
  have lPP : PP.length = 8 := by rw [hPP, List.length_map, lP]
  obtain ⟨R3, hR3⟩ : ∃ R3, R3 = R2 ++ [O.lst PP] := ⟨_, rfl⟩
  have s3 : Wl w3 R2 ++ [O.lst PP] = Wl w3 R3 := by rw [hR3]; rfl
  rw [s3] at st6
  have vP : ∀ w', ∀ y ∈ P, vd (Wl w' R2) y = true := fun w' y hy => by
    refine (pbad _ ?_ y hy).2
    rw [hR2]
    exact lst_in w' R1 [.lst P] _
  have c3 : Cl R3 := by
    rw [hR3]
    refine c2.more w3 fun x hx => ?_
    rw [hPP] at hx
    obtain ⟨y, hy, rfl⟩ := List.mem_map.mp hx
    exact putP_vd (hR0 _ _) (hC0 _ _) (vP w3 y hy)
  have g7 : (Wl w3 R3)[(Wl w3 R2).length]? = some (.lst PP) := by rw [hR3]; exact get_in w3 R2 [] _
  have st7 := w7 (k+3) (m := m) (x2 := mD b M) (LOT := lotD (lotAt m (t + 1))) (b := b) (i := p.1) (beh := p.2) (t := t) (o10 := some (.loc (r.length + 1))) (o11 := some (.loc ((Wl w3 R1).length + 1))) g7 (by omega) ar (by rw [lR]; omega) (by rw [lC]; omega)
  obtain ⟨BE, hBE⟩ : ∃ BE, BE = bentD (M.map rowD) (row.map pr) a t P (Wl w3 R3).length ((Wl w3 R3).length + 1) := ⟨_, rfl⟩
  have hBE' : PP ++ [putR (M.map rowD) a (.tup ((row.map pr).drop 1)), putR (M.map rowD) a (.tup (row.map pr ++ (row.map pr).take 1)), putR (M.map rowD) a (.loc (Wl w3 R3).length), .loc ((Wl w3 R3).length + 1), .tup [], .non] = BE := by rw [hBE, hPP]; rfl
  rw [hBE'] at st7
  have lBE : BE.length = 14 := by rw [← hBE', List.length_append, lPP]; rfl
  obtain ⟨R4, hR4⟩ : ∃ R4, R4 = R3 ++ [O.lst (row.map pr), .lst (M.map rowD), .lst BE] := ⟨_, rfl⟩
  have s4 : Wl w3 R3 ++ [O.lst (row.map pr), .lst (M.map rowD), .lst BE] = Wl w3 R4 := by rw [hR4]; rfl
  rw [s4] at st7
  -- what holds of the bent ones in any greater store
  have bbad : ∀ (w' : Int × Int × Int) (X : Sto), ∀ y ∈ BE, machB m (.tup [.int b, y]) = false ∧ vd (Wl w' (R3 ++ (.lst (row.map pr) :: .lst (M.map rowD) :: X))) y = true := fun w' X y hy => by
    rw [hBE] at hy
    refine bent_bad h h1 hm er ht (P := P) (fun z hz => pbad _ ?_ z hz) ?_ ?_ y hy
    · rw [hR3, hR2]
      have := lst_in w' R1 ([O.lst P] ++ ([O.lst PP] ++ (.lst (row.map pr) :: .lst (M.map rowD) :: X))) [.int p.1, .int p.2]
      have e : R1 ++ [O.lst [.int p.1, .int p.2], .lst P] ++ [O.lst PP] ++ (.lst (row.map pr) :: .lst (M.map rowD) :: X) = R1 ++ (O.lst [.int p.1, .int p.2] :: ([O.lst P] ++ ([O.lst PP] ++ (.lst (row.map pr) :: .lst (M.map rowD) :: X)))) := by simp
      rw [e]
      exact this
    · exact lst_in w' R3 _ _
    · have := lst_in w' (R3 ++ [.lst (row.map pr)]) X (M.map rowD)
      have e : R3 ++ [O.lst (row.map pr)] ++ (.lst (M.map rowD) :: X) = R3 ++ (.lst (row.map pr) :: .lst (M.map rowD) :: X) := by simp
      rw [e] at this
      have e2 : (R3 ++ [O.lst (row.map pr)]).length + 1 = (Wl w3 R3).length + 1 := by simp [Wl_len]
      rw [e2] at this
      exact this
  have c4 : Cl R4 := by
    have e : R4 = ((R3 ++ [.lst (row.map pr)]) ++ [.lst (M.map rowD)]) ++ [.lst BE] := by rw [hR4]; simp
    rw [e]
    refine ((c3.more w3 fun x hx => vds_mem (hC0 w3 _) x hx).more w3 fun x hx => vds_mem (hR0 w3 _) x hx).more w3 fun x hx => ?_
    have := (bbad w3 [] x hx).2
    have e2 : R3 ++ (O.lst (row.map pr) :: .lst (M.map rowD) :: []) = (R3 ++ [.lst (row.map pr)]) ++ [.lst (M.map rowD)] := by simp
    rw [e2] at this
    exact this
  have g8 : (Wl w3 R4)[(Wl w3 R3).length + 2]? = some (.lst BE) := by
    have e : R4 = (R3 ++ [.lst (row.map pr), .lst (M.map rowD)]) ++ (.lst BE :: []) := by rw [hR4]; simp
    have := get_in w3 (R3 ++ [.lst (row.map pr), .lst (M.map rowD)]) [] (.lst BE)
    rw [e]
    rw [show (R3 ++ [O.lst (row.map pr), .lst (M.map rowD)]).length + 1 = (Wl w3 R3).length + 2 by simp [Wl_len]] at this
    exact this
  have st8 := w8 (k+3) (m := m) (x2 := mD b M) (LOT := lotD (lotAt m (t + 1))) (RR := M.map rowD) (a := a) (b := b) (i := p.1) (beh := p.2) (t := t) (o10 := some (.loc (r.length + 1))) (o11 := some (.loc ((Wl w3 R1).length + 1))) g8 (by omega)
  obtain ⟨BB, hBB⟩ : ∃ BB, BB = BE.map (fun y => D.tup [.int b, y]) := ⟨_, rfl⟩
  rw [← hBB] at st8
  have lBB : BB.length = 14 := by rw [hBB, List.length_map, lBE]
  obtain ⟨R5, hR5⟩ : ∃ R5, R5 = R4 ++ [O.lst BB] := ⟨_, rfl⟩
  have s5 : Wl w3 R4 ++ [O.lst BB] = Wl w3 R5 := by rw [hR5]; rfl
  rw [s5] at st8
  have c5 : Cl R5 := by
    rw [hR5]
    refine c4.more w3 fun x hx => ?_
    rw [hBB] at hx
    obtain ⟨y, hy, rfl⟩ := List.mem_map.mp hx
    have := (bbad w3 [.lst BE] y hy).2
    rw [hR4]
    simp only [vd, vds, this, Bool.and_self, Bool.and_true]
  have g9 : (Wl w3 R5)[(Wl w3 R4).length]? = some (.lst BB) := by rw [hR5]; exact get_in w3 R4 [] _
  obtain ⟨OD, hOD⟩ : ∃ OD, OD = oddD b (n : Int) (M.map rowD) BE (Wl w3 R5).length := ⟨_, rfl⟩
  have hOD' : BB ++ [.tup [.int (n : Int), .tup (M.map rowD)], .tup [.int (-1), .tup (M.map rowD)], .tup [.non, .tup (M.map rowD)], .tup [.int b], .tup [.int b, .tup (M.map rowD), .int 0], .loc (Wl w3 R5).length, .non, .tup (M.map rowD)] = OD := by rw [hOD, hBB]; rfl
  obtain ⟨R6, hR6⟩ : ∃ R6, R6 = R5 ++ [O.lst [.int b, .tup (M.map rowD)], .lst OD] := ⟨_, rfl⟩
  have obad : ∀ (w' : Int × Int × Int) (X : Sto), ∀ y ∈ OD, machB m y = false ∧ vd (Wl w' (R5 ++ (.lst [.int b, .tup (M.map rowD)] :: X))) y = true ∧ ∀ q, y = .loc q → q = (Wl w3 R5).length := fun w' X y hy => by
    rw [hOD] at hy
    refine odd_bad h h1 hm (B := BE) (fun z hz => ?_) (lst_in w' R5 X _) y hy
    have := bbad w' ([.lst BE] ++ ([.lst BB] ++ (.lst [.int b, .tup (M.map rowD)] :: X))) z hz
    have e : R5 ++ (O.lst [.int b, .tup (M.map rowD)] :: X) = R3 ++ (O.lst (row.map pr) :: .lst (M.map rowD) :: ([.lst BE] ++ ([.lst BB] ++ (.lst [.int b, .tup (M.map rowD)] :: X)))) := by rw [hR5, hR4]; simp
    rw [e]
    exact this
  have vbR : ∀ w' R, vd (Wl w' R) (.tup (M.map rowD)) = true := fun w' R => by simpa [vd] using hR0 w' R
  have c6 : Cl R6 := by
    have e : R6 = (R5 ++ [.lst [.int b, .tup (M.map rowD)]]) ++ [.lst OD] := by rw [hR6]; simp
    rw [e]
    refine (c5.more w3 fun x hx => ?_).more w3 fun x hx => (obad w3 [] x hx).2.1
    simp only [List.mem_cons, List.not_mem_nil, or_false] at hx
    rcases hx with rfl | rfl
    · rfl
    · exact vbR _ _
  have lOD : OD.length = 22 := by rw [← hOD', List.length_append, lBB]; rfl
  obtain ⟨i1, y, w4, hy, o4, e4⟩ := one' (k+1) (j := R5.length + 1) (xs := OD) o3 (by omega) c6 (by rw [hR6]; simp) (by intro z; rw [z] at lOD; cases lOD) (by omega)
  have my : y ∈ OD := List.mem_of_getElem? hy
  have s6 : Wl w3 R5 ++ [O.lst [.int b, .tup (M.map rowD)], .lst OD] = Wl w3 R6 := by rw [hR6]; rfl
  have st9 := w9 (k+3) (m := m) (x2 := mD b M) (LOT := lotD (lotAt m (t + 1))) (a := a) (b := b) (i := p.1) (beh := p.2) (t := t) (o10 := some (.loc (r.length + 1))) (o11 := some (.loc ((Wl w3 R1).length + 1))) (o12 := some (.loc ((Wl w3 R3).length + 2))) (y := y) (S' := Wl w4 R6) g9 (by omega) lR (by rw [hOD', s6]; exact e4)
  rw [run, tbl__law_wrong, wrong_text]
  simp only [Fn.fill, List.append_nil, List.drop_nil, List.length_cons, List.length_nil, Nat.zero_add, if_true, List.map_cons, List.map_nil, Nat.reduceSub, Nat.reduceAdd, List.replicate, List.cons_append, List.nil_append, Wl_len]
  rw [seq_nx (wS0 _ _ _ _ _ _ _ _ _ _ _ _ _ _ _), seq_nx st1, seq_nx st2, seq_nx st3, seq_nx st4, seq_nx st5, seq_nx st6, seq_nx st7, seq_nx st8, seq_rt st9]
  simp only [Fl.res]
  -- what goes back
  obtain ⟨X, hX⟩ : ∃ X, R6 = r ++ X := ⟨[O.lst (outsD m t), .lst [.int p.1, .int p.2], .lst P, .lst PP, .lst (row.map pr), .lst (M.map rowD), .lst BE, .lst BB, .lst [.int b, .tup (M.map rowD)], .lst OD], by rw [hR6, hR5, hR4, hR3, hR2, hR1]; simp⟩
  have fin := obad w4 [.lst OD] y my
  have e6 : R5 ++ (O.lst [.int b, .tup (M.map rowD)] :: [.lst OD]) = R6 := by rw [hR6]
  rw [e6] at fin
  have o4' := o4.le (show c + 1 + 1 + 1 + 1 ≤ c + 10 by omega) hc
  rw [hX] at fin c6 ⊢
  have lR5 : r.length + 1 ≤ (Wl w3 R5).length := by rw [hR5, hR4, hR3, hR2, hR1]; simp [Wl_len] <;> omega
  refine kept_tidy (w := w) hr c6 (fun q eq => ?_) fun hq => ⟨⟨o4', fin.2.1, fin.1⟩, fun hu => ⟨o4', ?_, fin.1⟩⟩
  · have hq := fin.2.2 q eq
    subst eq
    refine ⟨[.int b, .tup (M.map rowD)], ?_, by omega, ?_, o4', ?_, rfl⟩
    · rw [← hX, hR6, hq, Wl_len]
      simp
    · simp only [D.unders, D.under, uR, Bool.and_self]
    · have := lst_in w4 r [] [.int b, .tup (M.map rowD)]
      simpa [vd] using this
  · have := vd_take (n := r.length + 1) fin.2.1 hu
    rwa [take_wl] at this
end K61
end
section
set_option maxRecDepth 100000
set_option maxHeartbeats 2000000
set_option linter.unusedSimpArgs false
namespace K61
open Fy
open PySem (PyData)
/-! ### the law -/
theorem well (k : Nat) (ns : List Int) (hn : ns.length ≤ 63) : ∃ w, Ok 0 w ∧ run tbl 1000 (k+1) "_law_well" [.fro (ns.map .int), .int 0] [] = .ok (.l [.int w.1, .int w.2.1, .int w.2.2]) [] := by
  have fin : ∀ (c : Int), 0 ≤ c → c < 2 ^ 200 → Ok 0 ((if 10 ^ 18 ≤ c then c else 0), (c % 2147483563 * 45007) % 2147483563 + 1, 0) := by
    intro c h0 h1
    refine ⟨?_, ?_, ?_, by simp, by simp, by decide⟩
    · simp only; split <;> omega
    · simp only
      have := Int.emod_nonneg (c % 2147483563 * 45007) (show (2147483563 : Int) ≠ 0 by decide)
      omega
    · simp only
      have := Int.emod_lt_of_pos (c % 2147483563 * 45007) (show (0 : Int) < 2147483563 by decide)
      omega
  have hL : (2 : Nat) ≤ LIM := by decide
  have hL3 : (3 : Nat) ≤ LIM := by decide
  have m0 : mulOk 5501 0 = true := by decide
  have m1 : mulOk 42013 0 = true := by decide
  have u3 : ∀ a b c : Int, D.unders 0 [.int a, .int b, .int c] = true := fun a b c => by simp [D.unders, D.under]
  have m2 : ∀ c : Int, mulOk (c % 2147483563) 45007 = true := fun c => by
    have a := Int.emod_nonneg c (show (2147483563 : Int) ≠ 0 by decide)
    have b := Int.emod_lt_of_pos c (show (0 : Int) < 2147483563 by decide)
    exact mulOk_of (by omega) (by decide)
  have a0 : ∀ c : Int, L2.atI [D.int 0, D.int c] 0 = some (.int 0) := fun c => rfl
  have a1 : ∀ c : Int, L2.atI [D.int 0, D.int c] 1 = some (.int c) := fun c => rfl
  cases ns with
  | nil =>
    refine ⟨_, fin 733 (by decide) (by decide), ?_⟩
    have m3 : mulOk 733 45007 = true := by decide
    rw [run, tbl__law_well]
    simp [f__law_well, Fn.fill, evSs, evS, evE, evEs, evTs, biT, lstOf, seqOf, truth, cmpT, ordT, ordI, binT, bindT, idxT, dicAt, a0, a1, Fl.then, Fl.res, tidy, u3, m0, m1, m2, m3, hL, hL3]
  | cons x xs =>
    have b0 : L2.atI (D.int x :: xs.map .int) 0 = some (.int x) := L2.atI_nat (j := 0) rfl
    have c0 : 0 ≤ (if x < 0 then -x else x) % 10 ^ 60 := Int.emod_nonneg _ (by decide)
    have c1 : (if x < 0 then -x else x) % 10 ^ 60 < 10 ^ 60 := Int.emod_lt_of_pos _ (by decide)
    generalize hc : (if x < 0 then -x else x) % 10 ^ 60 = c at c0 c1
    refine ⟨_, fin c c0 (by omega), ?_⟩
    rw [run, tbl__law_well]
    have hpos : (0 : Int) < (xs.length : Int) + 1 := by omega
    simp only [Int.reducePow] at hc
    by_cases h18 : 10 ^ 18 ≤ c
    · simp only [Int.reducePow] at h18
      simp [f__law_well, Fn.fill, evSs, evS, evE, evEs, evTs, biT, lstOf, seqOf, truth, cmpT, ordT, ordI, binT, bindT, idxT, dicAt, a0, a1, b0, Fl.then, Fl.res, tidy, u3, m0, m1, m2, hL, hL3, hpos, hc, h18]
    · simp only [Int.reducePow] at h18
      simp [f__law_well, Fn.fill, evSs, evS, evE, evEs, evTs, biT, lstOf, seqOf, truth, cmpT, ordT, ordI, binT, bindT, idxT, dicAt, a0, a1, b0, Fl.then, Fl.res, tidy, u3, m0, m1, m2, hL, hL3, hpos, hc, h18]
theorem like_ints (k : Nat) {w : Int × Int × Int} {r : Sto} (hr : Cl r) (l : List Int) (hl : l.length ≤ 1000) : run tbl 1000 (k+2) "_law_like" [lotD l, lotD l] (Wl w r) = .ok (.v (.bl true)) (Wl w r) := by
  refine like_tup (k+1) hr (l.map .int) (by rw [List.length_map]; omega) fun x hx => ?_
  obtain ⟨i, _, rfl⟩ := List.mem_map.mp hx
  exact like_int k hr i
theorem like_lots (k : Nat) {w : Int × Int × Int} {r : Sto} (hr : Cl r) {m : Nat} (hm : m ≤ 5) : run tbl 1000 (k+3) "_law_like" [.tup (lotsD m), .tup (lotsD m)] (Wl w r) = .ok (.v (.bl true)) (Wl w r) := by
  have hp := two_pow hm
  refine like_tup (k+2) hr (lotsD m) (by simp only [lotsD, List.length_map, lots_len]; omega) fun x hx => ?_
  obtain ⟨l, hl, rfl⟩ := List.mem_map.mp hx
  simp only [lots, List.mem_map] at hl
  obtain ⟨j, _, rfl⟩ := hl
  exact like_ints k hr _ (by have := lot_le (m := m) (n := j + 1); omega)
/-- the law's first loop -/
theorem first (k : Nat) {w : Int × Int × Int} {r : Sto} (hr : Cl r) (x0 : D) (o3 o4 o5 o6 o7 o8 o9 o10 o11 o12 o13 o14 : Option D) : ∀ (ms : List Nat) (o2 : Option D), (∀ m ∈ ms, 1 ≤ m ∧ m ≤ 5) →
    ∃ q2, forLoop (forF (.nm 2) (evSs (run tbl 1000 (k+5)) 1000 (forB (nth f_law.body 1)))) [] (ms.map fun m : Nat => D.int (m : Int)) [some x0, some (.loc 0), o2, o3, o4, o5, o6, o7, o8, o9, o10, o11, o12, o13, o14] (Wl w r) =
      .nx [some x0, some (.loc 0), q2, o3, o4, o5, o6, o7, o8, o9, o10, o11, o12, o13, o14] (Wl w r)
  | [], o2, _ => ⟨o2, by simp [forLoop, stands]⟩
  | m :: ms, o2, h => by
    obtain ⟨h1, hm⟩ := h m (by simp)
    obtain ⟨q2, e⟩ := first k hr x0 o3 o4 o5 o6 o7 o8 o9 o10 o11 o12 o13 o14 ms (some (.int (m : Int))) fun i hi => h i (by simp [hi])
    refine ⟨q2, ?_⟩
    have e1 := lots_of (k+1) (w := w) hr h1 hm
    have e2 := law_lots (k+4) (w := w) hr h1 hm
    have e3 := like_lots (k+2) (w := w) hr hm
    have turn : forF (.nm 2) (evSs (run tbl 1000 (k+5)) 1000 (forB (nth f_law.body 1))) (.int (m : Int)) [some x0, some (.loc 0), o2, o3, o4, o5, o6, o7, o8, o9, o10, o11, o12, o13, o14] (Wl w r) =
        .nx [some x0, some (.loc 0), some (.int (m : Int)), o3, o4, o5, o6, o7, o8, o9, o10, o11, o12, o13, o14] (Wl w r) := by
      have bt : bindT (.nm 2) (.int (m : Int)) [some x0, some (.loc 0), o2, o3, o4, o5, o6, o7, o8, o9, o10, o11, o12, o13, o14] = some [some x0, some (.loc 0), some (.int (m : Int)), o3, o4, o5, o6, o7, o8, o9, o10, o11, o12, o13, o14] := rfl
      rw [forF_ap, bt]
      have htu : ∀ s, biT .tuple [.l (lotsD m)] s = some (.v (.tup (lotsD m))) := fun _ => rfl
      have e9 : forB (nth f_law.body 1) = .cons (.ite (.not1 (.call "_law_like" (.cons (.call "lots_of" (.cons (.var 2) .nil)) (.cons (.bi .tuple (.cons (.call "_law_lots" (.cons (.var 2) .nil)) .nil)) .nil)))) (.cons (.ret (.bl false)) .nil) .nil) .nil := rfl
      rw [e9]
      generalize lotsD m = LL at *
      generalize (m : Int) = mm at *
      simp [evSs, evS, evE, evEs, evTs, e1, e2, e3, htu, truth, Fl.then]
    simp only [List.map_cons, forLoop, stands, List.all_nil, if_true, turn, Fl.turn]
    exact e
/-! a turn, statement by statement -/
def tB : Ss := forB (nth f_law.body 2)
def tS (i : Nat) : S := nth tB i
theorem t_text : tB = .cons (tS 0) (.cons (tS 1) (.cons (tS 2) (.cons (tS 3) (.cons (tS 4) (.cons (tS 5) (.cons (tS 6) (.cons (tS 7) (.cons (tS 8) (.cons (tS 9) (.cons (tS 10) (.cons (tS 11) (.cons (tS 12) .nil)))))))))))) := rfl
theorem mem_yes {m n : Nat} {row : List (Int × Int)} (hl : row.length = 2 ^ m - 1) (he : ∀ (j : Nat) (p : Int × Int), row[j]? = some p → p.1 ∈ lotAt m (j + 1) ∧ 0 ≤ p.2 ∧ p.2 < (n : Int)) : memB m (n : Int) (rowD row) = true := by
  simp only [rowD, memB, List.length_map, hl, decide_true, Bool.true_and]
  rw [List.all_eq_true]
  rintro ⟨y, j⟩ hy
  have hj : (row.map pr)[j]? = some y := by
    have := List.mk_mem_zipIdx_iff_getElem?.mp hy
    exact this
  rw [List.getElem?_map, Option.map_eq_some_iff] at hj
  obtain ⟨p, hp, rfl⟩ := hj
  obtain ⟨e1, e2, e3⟩ := he j p hp
  have h0 := (lot_mem e1).1
  have h4 : p.2 ≤ (n : Int) - 1 := by omega
  simp [pr, pairB, num, h0, e2, h4, e1]
theorem mach_yes {m n : Nat} {b : Int} {M : List (List (Int × Int))} (h : Mach m n b M) : machB m (mD b M) = true := by
  have h1 := h.n1
  have h9 := h.n9
  have h2 := h.b0
  have h3 := h.bn
  have h4 : b ≤ (n : Int) - 1 := by omega
  have hall : ((M.map rowD).all fun row => memB m (n : Int) row) = true := by
    rw [List.all_eq_true]
    intro x hx
    obtain ⟨row, hr, rfl⟩ := List.mem_map.mp hx
    exact mem_yes (h.rows row hr) (h.ent row hr)
  have hs : siz 5000 (.int (n : Int)) = true := by
    simp only [siz, Bool.and_eq_true, decide_eq_true_eq]
    omega
  simp only [mD, machB, List.length_map, h.len, hall, hs, num, h2, h4, decide_true, Bool.and_self]
theorem mach_not {m m' n : Nat} {b : Int} {M : List (List (Int × Int))} (h : Mach m n b M) (h1 : 1 ≤ m) (h1' : 1 ≤ m') (ne : m' ≠ m) : machB m' (mD b M) = false := by
  have hn := h.n1
  have hl := h.len
  have h0 : 0 < M.length := by omega
  have hr := h.rows M[0] (List.getElem_mem h0)
  refine machB_row (y := rowD M[0]) (List.mem_map.mpr ⟨M[0], List.getElem_mem h0, rfl⟩) ?_
  have p1 : 1 ≤ 2 ^ m := Nat.one_le_two_pow
  have p2 : 1 ≤ 2 ^ m' := Nat.one_le_two_pow
  have : ¬ (M[0].map pr).length = 2 ^ m' - 1 := by
    rw [List.length_map, hr]
    intro e
    have e2 : 2 ^ m' = 2 ^ m := by omega
    exact ne ((Nat.pow_right_inj (by decide)).mp e2)
  simp only [rowD, memB, this, decide_false, Bool.false_and]
theorem mach_eq {m m' n : Nat} {b : Int} {M : List (List (Int × Int))} (h : Mach m n b M) (h1 : 1 ≤ m) (h1' : 1 ≤ m') : machB m' (mD b M) = decide ((m' : Int) = (m : Int)) := by
  by_cases e : m' = m
  · subst e
    rw [mach_yes h]
    simp
  · rw [mach_not h h1 h1' e]
    have : ¬ (m' : Int) = (m : Int) := by omega
    simp [this]
theorem bad_vd {S : Sto} {v d : D} (h : Bad S v d) : vd S v = true → vd S d = true := by
  induction h with
  | lst xs n e => intro _; simpa [vd] using e
  | more xs =>
    intro hv
    simp only [vd] at hv ⊢
    exact vds_of fun x hx => by
      rcases List.mem_append.mp hx with hx | hx
      · exact vds_mem hv x hx
      · have : x = .non := by simpa using hx
        subst this
        rfl
  | part xs i x y e _ ih =>
    intro hv
    simp only [vd] at hv ⊢
    exact put_vd hv (ih (vds_mem hv x (List.mem_of_getElem? e)))
  | bool i b => intro _; rfl
  | non i => intro _; rfl
  | one i n e => intro _; simpa [vd] using e
theorem bad_num {S : Sto} {i : Int} {y : D} (h : Bad S (.int i) y) (o : Option Int) : num o y = false := by
  cases h <;> cases o <;> rfl
theorem bad_tup {S : Sto} {xs : List D} {y : D} (h : Bad S (.tup xs) y) : (∃ n, y = .loc n) ∨ y = .tup (xs ++ [.non]) ∨ ∃ i x z, xs[i]? = some x ∧ Bad S x z ∧ y = .tup (xs.take i ++ [z] ++ xs.drop (i + 1)) := by
  cases h with
  | lst _ n e => exact .inl ⟨n, rfl⟩
  | more _ => exact .inr (.inl rfl)
  | part _ i x z e q => exact .inr (.inr ⟨i, x, z, e, q, rfl⟩)
theorem bad_pair {S : Sto} {p : Int × Int} {y : D} (h : Bad S (pr p) y) (m : Nat) (n : Int) (t : Nat) : pairB m n t y = false := by
  rcases bad_tup h with ⟨n, rfl⟩ | rfl | ⟨i, x, z, e, q, rfl⟩
  · rfl
  · rfl
  · match i, e with
    | 0, e =>
      have : D.int p.1 = x := by simpa using e
      subst this
      show pairB m n t (.tup [z, .int p.2]) = false
      rw [pairB_two, bad_num q none]
      rfl
    | 1, e =>
      have : D.int p.2 = x := by simpa using e
      subst this
      show pairB m n t (.tup [.int p.1, z]) = false
      rw [pairB_two, bad_num q (some (n - 1)), Bool.false_and, Bool.and_false]
    | i + 2, e => simp at e
theorem bad_row {S : Sto} {row : List (Int × Int)} {m : Nat} (hl : row.length = 2 ^ m - 1) {y : D} (h : Bad S (rowD row) y) (n : Int) : memB m n y = false := by
  rcases bad_tup h with ⟨n, rfl⟩ | rfl | ⟨i, x, z, e, q, rfl⟩
  · rfl
  · have : ¬ (row.map pr ++ [D.non]).length = 2 ^ m - 1 := by simp; omega
    simp only [memB, this, decide_false, Bool.false_and]
  · have hi := (List.getElem?_eq_some_iff.mp e).1
    rw [List.getElem?_map, Option.map_eq_some_iff] at e
    obtain ⟨p, _, rfl⟩ := e
    exact memB_at (put_at hi z) (bad_pair q m n i)
theorem bad_mach {S : Sto} {m n : Nat} {b : Int} {M : List (List (Int × Int))} (h : Mach m n b M) {y : D} (hb : Bad S (mD b M) y) : machB m y = false := by
  rcases bad_tup hb with ⟨n, rfl⟩ | rfl | ⟨i, x, z, e, q, rfl⟩
  · rfl
  · rfl
  · match i, e with
    | 0, e =>
      have : D.int b = x := by simpa using e
      subst this
      show machB m (.tup [z, .tup (M.map rowD)]) = false
      exact machB_num (bad_num q _)
    | 1, e =>
      have : D.tup (M.map rowD) = x := by simpa using e
      subst this
      show machB m (.tup [.int b, z]) = false
      rcases bad_tup q with ⟨n, rfl⟩ | rfl | ⟨j, x, z, e, q, rfl⟩
      · rfl
      · exact machB_row (y := .non) (by simp) rfl
      · have hj := (List.getElem?_eq_some_iff.mp e).1
        rw [List.getElem?_map, Option.map_eq_some_iff] at e
        obtain ⟨row, er, rfl⟩ := e
        exact machB_row (put_mem z) (bad_row (h.rows row (List.mem_of_getElem? er)) q _)
    | i + 2, e => simp at e
abbrev tE (x0 : D) (o2 o3 o4 o5 o6 o7 o8 o9 o10 o11 o12 o13 o14 : Option D) : Env := [some x0, some (.loc 0), o2, o3, o4, o5, o6, o7, o8, o9, o10, o11, o12, o13, o14]
section
variable (k : Nat) {c : Int} {w : Int × Int × Int} {r : Sto} {x0 : D} {o2 o3 o4 o5 o6 o7 o8 o9 o10 o11 o12 o13 o14 : Option D}
theorem T0 (hr : Cl r) (hw : Ok c w) (hc : c + 1 ≤ 1000000000) : ∃ (m : Nat) (w' : Int × Int × Int), 1 ≤ m ∧ m ≤ 5 ∧ Ok (c + 1) w' ∧ evS (run tbl 1000 (k+1)) 1000 (tS 0) (tE x0 o2 o3 o4 o5 o6 o7 o8 o9 o10 o11 o12 o13 o14) (Wl w r) = .nx (tE x0 (some (.int (m : Int))) o3 o4 o5 o6 o7 o8 o9 o10 o11 o12 o13 o14) (Wl w' r) := by
  obtain ⟨d, w', d0, d5, o, e⟩ := dip k (m := 5) hw hc (by decide) (by decide) hr
  obtain ⟨d, rfl⟩ := Int.eq_ofNat_of_zero_le d0
  refine ⟨1 + d, w', by omega, by omega, o, ?_⟩
  have e9 : tS 0 = .asg (.nm 2) (.bin .add (.int 1) (.call "_law_dip" (.cons (.var 1) (.cons (.int 5) .nil)))) := rfl
  have ed : ((1 + d : Nat) : Int) = 1 + (d : Int) := by omega
  rw [e9, ed]
  unfold tE
  generalize (d : Int) = dd at *
  simp [evS, evE, evEs, e, binT, bindT]
theorem T4 (hr : Cl r) (hw : Ok c w) (hc : c + 1 ≤ 1000000000) : ∃ (m : Nat) (w' : Int × Int × Int), 1 ≤ m ∧ m ≤ 5 ∧ Ok (c + 1) w' ∧ evS (run tbl 1000 (k+1)) 1000 (tS 4) (tE x0 o2 o3 o4 o5 o6 o7 o8 o9 o10 o11 o12 o13 o14) (Wl w r) = .nx (tE x0 o2 o3 o4 o5 (some (.int (m : Int))) o7 o8 o9 o10 o11 o12 o13 o14) (Wl w' r) := by
  obtain ⟨d, w', d0, d5, o, e⟩ := dip k (m := 5) hw hc (by decide) (by decide) hr
  obtain ⟨d, rfl⟩ := Int.eq_ofNat_of_zero_le d0
  refine ⟨1 + d, w', by omega, by omega, o, ?_⟩
  have e9 : tS 4 = .asg (.nm 6) (.bin .add (.int 1) (.call "_law_dip" (.cons (.var 1) (.cons (.int 5) .nil)))) := rfl
  have ed : ((1 + d : Nat) : Int) = 1 + (d : Int) := by omega
  rw [e9, ed]
  unfold tE
  generalize (d : Int) = dd at *
  simp [evS, evE, evEs, e, binT, bindT]
theorem T1 (hr : Cl r) (hw : Ok c w) (hc : c + 1001 ≤ 1000000000) {m : Nat} (h1 : 1 ≤ m) (hm : m ≤ 5) : ∃ (n : Nat) (b : Int) (M : List (List (Int × Int))) (w' : Int × Int × Int), Mach m n b M ∧ Ok (c + 1001) w' ∧
    evS (run tbl 1000 (k+2)) 1000 (tS 1) (tE x0 (some (.int (m : Int))) o3 o4 o5 o6 o7 o8 o9 o10 o11 o12 o13 o14) (Wl w r) = .nx (tE x0 (some (.int (m : Int))) o3 (some (mD b M)) (some (.loc (r.length + 1))) o6 o7 o8 o9 o10 o11 o12 o13 o14) (Wl w' (r ++ [.lst (lotsD m)])) := by
  obtain ⟨d, w1, d0, d5, o, e⟩ := dip (k+1) (m := 9) hw (by omega) (by decide) (by decide) hr
  obtain ⟨d, rfl⟩ := Int.eq_ofNat_of_zero_le d0
  obtain ⟨b, M, w2, h, o2', e2⟩ := law_machine k (n := 1 + d) h1 hm (by omega) (by omega) hr o (by omega)
  refine ⟨1 + d, b, M, w2, h, o2'.le (by omega) hc, ?_⟩
  have e3 := law_lots (k+1) (w := w2) hr h1 hm
  have e9 : tS 1 = .asg (.tp (.cons (.nm 4) (.cons (.nm 5) .nil))) (.tup (.cons (.call "_law_machine" (.cons (.var 1) (.cons (.var 2) (.cons (.bin .add (.int 1) (.call "_law_dip" (.cons (.var 1) (.cons (.int 9) .nil)))) .nil)))) (.cons (.call "_law_lots" (.cons (.var 2) .nil)) .nil))) := rfl
  have ed : ((1 + d : Nat) : Int) = 1 + (d : Int) := by omega
  rw [ed] at e2
  have hL2 : (2 : Nat) ≤ LIM := by decide
  have bt : ∀ x2 : D, bindT (.tp (.cons (.nm 4) (.cons (.nm 5) .nil))) (.tup [mD b M, .loc (r.length + 1)]) (tE x0 (some x2) o3 o4 o5 o6 o7 o8 o9 o10 o11 o12 o13 o14) = some (tE x0 (some x2) o3 (some (mD b M)) (some (.loc (r.length + 1))) o6 o7 o8 o9 o10 o11 o12 o13 o14) := fun _ => rfl
  rw [e9]
  unfold tE at *
  generalize mD b M = MD at *
  generalize lotsD m = LL at *
  generalize (m : Int) = mm at *
  generalize (d : Int) = dd at *
  simp [evS, evE, evEs, e, binT, e2, e3, hL2, bt, Wl_len, Wl_app]
theorem T2 (hr : Cl r) (hw : Ok c w) (hc : c + 10 ≤ 1000000000) {m n : Nat} {b : Int} {M : List (List (Int × Int))} (h : Mach m n b M) (h1 : 1 ≤ m) (hm : m ≤ 5) : ∃ (w' : Int × Int × Int) (x : Sto), Ok (c + 10) w' ∧ Cl (r ++ x) ∧
    evS (run tbl 1000 (k+5)) 1000 (tS 2) (tE x0 (some (.int (m : Int))) o3 (some (mD b M)) o5 o6 o7 o8 o9 o10 o11 o12 o13 o14) (Wl w r) = .nx (tE x0 (some (.int (m : Int))) o3 (some (mD b M)) o5 o6 o7 o8 o9 o10 o11 o12 o13 o14) (Wl w' (r ++ x)) := by
  have e1 := is_machine k hr h1 hm (mD b M) (it_vd (Wl w r) 4 _ (it_mD h h1 hm))
  rw [mach_yes h] at e1
  obtain ⟨t, s, d, w', x, e2, hk, hx, o, hv, hb⟩ := law_wrong (k+1) h h1 hm hr hw hc
  have e3 := is_machine k hx h1 hm d hv
  rw [hb] at e3
  have hk' : keepR t s = .ok d (Wl w' (r ++ x)) := by simp only [keepR, hk]
  refine ⟨w', x, o, hx, ?_⟩
  have e9 : tS 2 = .ite (.or2 (.cmp .isnot (.call "is_machine" (.cons (.var 2) (.cons (.var 4) .nil))) (.bl true)) (.cmp .isnot (.call "is_machine" (.cons (.var 2) (.cons (.call "_law_wrong" (.cons (.var 1) (.cons (.var 2) (.cons (.var 4) .nil)))) .nil))) (.bl false))) (.cons (.ret (.bl false)) .nil) .nil := rfl
  rw [e9]
  unfold tE at *
  generalize mD b M = MD at *
  generalize (m : Int) = mm at *
  simp [evS, evSs, evE, evEs, e1, e2, hk', e3, cmpT, isT, truth]
theorem T3 (hr : Cl r) (hw : Ok c w) (hc : c + 20 ≤ 1000000000) {m n : Nat} {b : Int} {M : List (List (Int × Int))} (h : Mach m n b M) (h1 : 1 ≤ m) (hm : m ≤ 5) : ∃ (w' : Int × Int × Int) (x : Sto), Ok (c + 20) w' ∧ Cl (r ++ x) ∧
    evS (run tbl 1000 (k+7)) 1000 (tS 3) (tE x0 (some (.int (m : Int))) o3 (some (mD b M)) o5 o6 o7 o8 o9 o10 o11 o12 o13 o14) (Wl w r) = .nx (tE x0 (some (.int (m : Int))) o3 (some (mD b M)) o5 o6 o7 o8 o9 o10 o11 o12 o13 o14) (Wl w' (r ++ x)) := by
  obtain ⟨t, s, d, w', x, e2, hk, hx, o, hbad⟩ := wronged k 4 (by decide) (mD b M) (it_mD h h1 hm) c w r hr hw (by omega)
  have hv := bad_vd hbad (it_vd _ 4 _ (it_mD h h1 hm))
  have hb := bad_mach h hbad
  have e3 := is_machine (k+2) hx h1 hm d hv
  rw [hb] at e3
  have hk' : keepR t s = .ok d (Wl w' (r ++ x)) := by simp only [keepR, hk]
  refine ⟨w', x, o.le (by omega) hc, hx, ?_⟩
  have e9 : tS 3 = .ite (.cmp .isnot (.call "is_machine" (.cons (.var 2) (.cons (.call "_law_wronged" (.cons (.var 1) (.cons (.var 4) .nil))) .nil))) (.bl false)) (.cons (.ret (.bl false)) .nil) .nil := rfl
  rw [e9]
  unfold tE at *
  have e2' : run tbl 1000 (k+7) "_law_wronged" [.loc 0, mD b M] (Wl w r) = .ok t s := e2
  generalize mD b M = MD at *
  generalize (m : Int) = mm at *
  simp [evS, evSs, evE, evEs, e2', hk', e3, cmpT, isT, truth]
theorem T5 (hr : Cl r) {m m' n : Nat} {b : Int} {M : List (List (Int × Int))} (h : Mach m n b M) (h1 : 1 ≤ m) (h1' : 1 ≤ m') (hm' : m' ≤ 5) :
    evS (run tbl 1000 (k+5)) 1000 (tS 5) (tE x0 (some (.int (m : Int))) o3 (some (mD b M)) o5 (some (.int (m' : Int))) o7 o8 o9 o10 o11 o12 o13 o14) (Wl w r) = .nx (tE x0 (some (.int (m : Int))) o3 (some (mD b M)) o5 (some (.int (m' : Int))) o7 o8 o9 o10 o11 o12 o13 o14) (Wl w r) := by
  have hv : vd (Wl w r) (mD b M) = true := by
    have : ∀ p : Int × Int, vd (Wl w r) (pr p) = true := fun p => rfl
    simp only [mD, vd, vds, Bool.and_true, Bool.true_and]
    exact vds_of fun x hx => by
      obtain ⟨row, _, rfl⟩ := List.mem_map.mp hx
      simp only [rowD, vd]
      exact vds_of fun y hy => by
        obtain ⟨p, _, rfl⟩ := List.mem_map.mp hy
        exact this p
  have e1 := is_machine k hr h1' hm' (mD b M) hv
  rw [mach_eq h h1 h1'] at e1
  have e2 := like_bl (k+4) (w := w) hr (decide ((m' : Int) = (m : Int))) (decide ((m' : Int) = (m : Int)))
  have e3 := memories_of (k+4) h (w := w) hr
  have e4 := come (k+4) h (w := w) hr
  have e5 := like_ints (k+3) (w := w) hr (srt (itM M b n)) (by
    have : (srt (itM M b n)).length = (itM M b n).length := List.length_mergeSort _
    have := it_len h n
    have := h.n9
    omega)
  have htu : ∀ s, biT .tuple [.l ((srt (itM M b n)).map .int)] s = some (.v (lotD (srt (itM M b n)))) := fun _ => rfl
  have e9 : tS 5 = .ite (.or2 (.not1 (.call "_law_like" (.cons (.call "is_machine" (.cons (.var 6) (.cons (.var 4) .nil))) (.cons (.cmp .eq (.var 6) (.var 2)) .nil)))) (.not1 (.call "_law_like" (.cons (.call "memories_of" (.cons (.var 4) .nil)) (.cons (.bi .tuple (.cons (.call "_law_come" (.cons (.var 4) .nil)) .nil)) .nil))))) (.cons (.ret (.bl false)) .nil) .nil := rfl
  rw [e9]
  unfold tE at *
  generalize lotD (srt (itM M b n)) = SL at *
  generalize (srt (itM M b n)).map D.int = SI at *
  generalize mD b M = MD at *
  generalize (m : Int) = mm at *
  generalize (m' : Int) = mm' at *
  by_cases hmm : mm' = mm
  · simp only [hmm, decide_true] at e1 e2
    simp [evS, evSs, evE, evEs, evTs, hmm, e1, e2, e3, e4, e5, htu, cmpT, eqT, truth]
  · simp only [hmm, decide_false] at e1 e2
    simp [evS, evSs, evE, evEs, evTs, hmm, e1, e2, e3, e4, e5, htu, cmpT, eqT, truth]
theorem js_of {m : Nat} : ∀ {ds : List D}, (∀ (i : Nat) (d : D), ds[i]? = some d → ∃ j, j < 2 ^ m - 1 ∧ d = lotJ m j) → ∃ js : List Nat, ds = js.map (lotJ m) ∧ ∀ j ∈ js, j < 2 ^ m - 1
  | [], _ => ⟨[], rfl, by simp⟩
  | d :: ds, h => by
    obtain ⟨j, hj, rfl⟩ := h 0 d rfl
    obtain ⟨js, rfl, h2⟩ := js_of (ds := ds) fun i d hd => h (i + 1) d (by simpa using hd)
    refine ⟨j :: js, rfl, fun q hq => ?_⟩
    rcases List.mem_cons.mp hq with rfl | hq
    · exact hj
    · exact h2 q hq
theorem T6 (hr : Cl r) (hw : Ok c w) (hc : c + 100 ≤ 1000000000) {m : Nat} {l : Nat} (h1 : 1 ≤ m) (hm : m ≤ 5) (hl : r[l]? = some (.lst (lotsD m))) : ∃ (js : List Nat) (w' : Int × Int × Int) (x : Sto), (∀ j ∈ js, j < 2 ^ m - 1) ∧ js.length ≤ 60 ∧ Ok (c + 100) w' ∧ Cl (r ++ x) ∧
    evS (run tbl 1000 (k+2)) 1000 (tS 6) (tE x0 o2 o3 o4 (some (.loc (l + 1))) o6 o7 o8 o9 o10 o11 o12 o13 o14) (Wl w r) = .nx (tE x0 o2 o3 o4 (some (.loc (l + 1))) o6 (some (.tup (js.map (lotJ m)))) o8 o9 o10 o11 o12 o13 o14) (Wl w' (r ++ x)) := by
  have hp := two_pow hm
  have h2 : 2 ≤ 2 ^ m := by
    have := Nat.pow_le_pow_right (show 0 < 2 by decide) h1
    simpa using this
  have hL4 : (4 : Nat) ≤ LIM := by decide
  have c1 : Cl (r ++ [O.lst [.int 0, .int 1, .int 5, .int 60]]) := hr.snoc (by simp [O.under, D.unders, D.under])
  obtain ⟨i, d, w1, hi, o1, e1⟩ := one' k (j := r.length) (xs := [.int 0, .int 1, .int 5, .int 60]) hw (by omega) c1 (by simp) (by simp) (by simp)
  obtain ⟨q, rfl, hq⟩ : ∃ q : Nat, d = .int (q : Int) ∧ q ≤ 60 := by
    have := List.mem_of_getElem? hi
    simp only [List.mem_cons, List.not_mem_nil, or_false] at this
    rcases this with rfl | rfl | rfl | rfl
    · exact ⟨0, rfl, by omega⟩
    · exact ⟨1, rfl, by omega⟩
    · exact ⟨5, rfl, by omega⟩
    · exact ⟨60, rfl, by omega⟩
  have hl' : (r ++ [O.lst [.int 0, .int 1, .int 5, .int 60]])[l]? = some (.lst (lotsD m)) := by
    rw [List.getElem?_append_left (List.getElem?_eq_some_iff.mp hl).1]; exact hl
  have lne : lotsD m ≠ [] := fun e => by
    have := congrArg List.length e
    simp only [lotsD, List.length_map, lots_len, List.length_nil] at this
    omega
  have lln : (lotsD m).length < 100000 := by simp only [lotsD, List.length_map, lots_len]; omega
  obtain ⟨ds, w2, l2, hd, o2', e2⟩ := lc_draw (F := lcF (.nm 14) [14] (tE x0 o2 o3 o4 (some (.loc (l + 1))) o6 o7 o8 o9 o10 o11 o12 o13 o14) (fun _ s => .ok true s) (evE (run tbl 1000 (k+2)) (.call "_law_one" (.cons (.var 1) (.cons (.var 5) .nil))))) (A := fun i : Nat => D.int (i : Int)) (R := r ++ [O.lst [.int 0, .int 1, .int 5, .int 60]]) (src := []) (P := fun _ d => ∃ j, j < 2 ^ m - 1 ∧ d = lotJ m j) (c := 1) (by decide) (fun w => by simp [stands]) (List.range q) 0 [] (c + 1) w1
    (fun j y n w hy hw hn => by
      obtain ⟨i, d, w', hi, o, e⟩ := one' k (j := l) (xs := lotsD m) hw hn c1 hl' lne lln
      refine ⟨d, w', ?_, o, ?_⟩
      · simp only [lotsD, List.getElem?_map, Option.map_eq_some_iff] at hi
        obtain ⟨lt, hlt, rfl⟩ := hi
        obtain ⟨rfl, hj⟩ := lots_get hlt
        exact ⟨i, hj, rfl⟩
      · unfold tE
        generalize (y : Int) = yy
        simp [lcF, bindT, wipeE, evE, evEs, e]) o1 (by rw [List.length_range]; omega) (by rw [List.length_range, List.length_nil, Nat.zero_add]; exact LIM_big (by omega))
  obtain ⟨js, rfl, hjs⟩ := js_of (m := m) fun i d hd' => hd i d hd'
  rw [List.length_range] at l2 o2'
  rw [List.length_map] at l2
  refine ⟨js, w2, _, hjs, by omega, o2'.le (by omega) hc, c1, ?_⟩
  have r5 := rng0 (b := q) (by omega)
  have hi : evIt (run tbl 1000 (k+2)) (.rng (.cons (.call "_law_one" (.cons (.var 1) (.cons (.lst (.cons (.int 0) (.cons (.int 1) (.cons (.int 5) (.cons (.int 60) .nil))))) .nil))) .nil)) (tE x0 o2 o3 o4 (some (.loc (l + 1))) o6 o7 o8 o9 o10 o11 o12 o13 o14) (Wl w r) = .ok ⟨(List.range q).map fun i => D.int (i : Nat), []⟩ (Wl w1 (r ++ [O.lst [.int 0, .int 1, .int 5, .int 60]])) := by
    unfold tE
    generalize (q : Int) = qq at r5 e1
    simp [evIt, evEs, evE, hL4, Wl_len, Wl_app, e1, rangeOf, r5]
  have hE : evE (run tbl 1000 (k+2)) (.lc [("beat", 14)] (.nm 14) (.rng (.cons (.call "_law_one" (.cons (.var 1) (.cons (.lst (.cons (.int 0) (.cons (.int 1) (.cons (.int 5) (.cons (.int 60) .nil))))) .nil))) .nil)) .none (.call "_law_one" (.cons (.var 1) (.cons (.var 5) .nil)))) (tE x0 o2 o3 o4 (some (.loc (l + 1))) o6 o7 o8 o9 o10 o11 o12 o13 o14) (Wl w r) = .ok (.l (js.map (lotJ m))) (Wl w2 (r ++ [O.lst [.int 0, .int 1, .int 5, .int 60]])) := by
    rw [evE, hi]
    exact e2
  have htu : ∀ s, biT .tuple [.l (js.map (lotJ m))] s = some (.v (.tup (js.map (lotJ m)))) := fun _ => rfl
  have e9 : tS 6 = .asg (.nm 7) (.bi .tuple (.cons (.lc [("beat", 14)] (.nm 14) (.rng (.cons (.call "_law_one" (.cons (.var 1) (.cons (.lst (.cons (.int 0) (.cons (.int 1) (.cons (.int 5) (.cons (.int 60) .nil))))) .nil))) .nil)) .none (.call "_law_one" (.cons (.var 1) (.cons (.var 5) .nil)))) .nil)) := rfl
  rw [e9]
  generalize E.lc _ _ _ _ _ = ent at hE ⊢
  generalize js.map (lotJ m) = JJ at *
  unfold tE at *
  simp [evS, evE, evTs, hE, htu, bindT]
end
end K61
end
section
set_option maxRecDepth 100000
set_option maxHeartbeats 2000000
set_option linter.unusedSimpArgs false
namespace K61
open Fy
open PySem (PyData)
def chk (m j : Nat) : Bool := match idxD (lotsD m) (lotJ m j) with
  | some (.v (.int i)) => decide (i = (j : Int))
  | _ => false
theorem chk_all : ((List.range 6).all fun m => (List.range 31).all fun j => !decide (j + 1 < 2 ^ m) || chk m j) = true := by decide +kernel
theorem idx_lot {m j : Nat} (hm : m ≤ 5) (hj : j < 2 ^ m - 1) : idxD (lotsD m) (lotJ m j) = some (.v (.int (j : Int))) := by
  have hp := two_pow hm
  have h := List.all_eq_true.mp (List.all_eq_true.mp chk_all m (List.mem_range.mpr (by omega))) j (List.mem_range.mpr (by omega))
  simp only [Bool.or_eq_true, Bool.not_eq_true', decide_eq_false_iff_not] at h
  rcases h with h | h
  · omega
  · unfold chk at h
    split at h
    · rename_i i e
      rw [e, of_decide_eq_true h]
    · cases h
section
variable (k : Nat) {c : Int} {w : Int × Int × Int} {r : Sto} {x0 : D} {o2 o3 o4 o5 o6 o7 o8 o9 o10 o11 o12 o13 o14 : Option D}
theorem T7 {b : Int} {M : List (List (Int × Int))} : evS (run tbl 1000 k) 1000 (tS 7) (tE x0 o2 o3 (some (mD b M)) o5 o6 o7 o8 o9 o10 o11 o12 o13 o14) (Wl w r) = .nx (tE x0 o2 o3 (some (mD b M)) o5 o6 o7 (some (.int b)) (some (.loc (r.length + 1))) o10 o11 o12 o13 o14) (Wl w (r ++ [.lst []])) := by
  have hL0 : (0 : Nat) ≤ LIM := by decide
  have i0 : L2.atI [D.int b, .tup (M.map rowD)] 0 = some (.int b) := rfl
  have e9 : tS 7 = .par2 8 9 (.idx (.var 4) (.int 0)) (.lst .nil) := rfl
  rw [e9]
  unfold tE
  simp [evS, evE, evEs, mD, idxT, dicAt, seqOf, i0, hL0, Wl_len, Wl_app]
theorem t8_turn (hr : Cl r) {m n : Nat} {b : Int} {M : List (List (Int × Int))} (h : Mach m n b M) (hm : m ≤ 5) {l : Nat} (hl : r[l]? = some (.lst (lotsD m))) {st : List Int × Int} (h0 : 0 ≤ st.2) (hn : st.2 < n) (hsl : st.1.length ≤ 1000) {j : Nat} (hj : j < 2 ^ m - 1) (x7 : D) :
    forF (.nm 10) (evSs (run tbl 1000 k) 1000 (forB (tS 8))) (lotJ m j) (tE x0 o2 o3 (some (mD b M)) (some (.loc (l + 1))) o6 (some x7) (some (.int st.2)) (some (.loc (r.length + 1))) o10 o11 o12 o13 o14) (Wl w (r ++ [.lst (st.1.map .int)])) =
      .nx (tE x0 o2 o3 (some (mD b M)) (some (.loc (l + 1))) o6 (some x7) (some (.int (stepF M st j).2)) (some (.loc (r.length + 1))) (some (lotJ m j)) (some (.int ((M.getD st.2.toNat []).getD j (0, 0)).1)) o12 o13 o14) (Wl w (r ++ [.lst ((stepF M st j).1.map .int)])) := by
  obtain ⟨row, p, e1, e2, e3, e4⟩ := step_ok h h0 hn hj
  have hst : stepF M st j = (st.1 ++ [p.1], p.2) := by unfold stepF; rw [e3]
  rw [hst, e3]
  have hidx := idx_lot hm hj
  have i1 : L2.atI [D.int b, .tup (M.map rowD)] 1 = some (.tup (M.map rowD)) := rfl
  have hlen : st.1.length < LIM := LIM_lt (by omega)
  have hlr : l < r.length := (List.getElem?_eq_some_iff.mp hl).1
  have hsl1 : (Wl w (r ++ [.lst (st.1.map .int)]))[l + 1]? = some (.lst (lotsD m)) := by rw [Wl_s, List.getElem?_append_left hlr]; exact hl
  have hs1 : (Wl w (r ++ [.lst (st.1.map .int)]))[r.length + 1]? = some (.lst (st.1.map .int)) := by rw [Wl_s]; simp
  have hll : isLst (.v (.loc (l + 1))) (Wl w (r ++ [.lst (st.1.map .int)])) = some (.v (.loc (l + 1))) := by simp only [isLst, lstOf, lstAt, hsl1, Option.map_some]
  have hme : meT .idx (.v (.loc (l + 1))) [.v (lotJ m j)] (Wl w (r ++ [.lst (st.1.map .int)])) = .ok (.v (.int (j : Int))) (Wl w (r ++ [.lst (st.1.map .int)])) := by
    simp only [meT, lstOf, lstAt, hsl1, hidx, ofO_some]
  have hls : isLst (.v (.loc (r.length + 1))) (Wl w (r ++ [.lst (st.1.map .int)])) = some (.v (.loc (r.length + 1))) := by simp only [isLst, lstOf, lstAt, hs1, Option.map_some]
  have hap : appT (.v (.loc (r.length + 1))) [.int p.1] (Wl w (r ++ [.lst (st.1.map .int)])) = .ok (.v .non) (Wl w (r ++ [.lst ((st.1 ++ [p.1]).map .int)])) := by
    have e : (st.1.map D.int) ++ [D.int p.1] = (st.1 ++ [p.1]).map .int := by simp
    simp only [appT, hs1, List.length_map, hlen, if_true, e]
    congr 1
    unfold Wl
    simp [List.set_cons_succ, List.set_append]
  have bt : ∀ (x8 : D), bindT (.nm 10) (lotJ m j) (tE x0 o2 o3 (some (mD b M)) (some (.loc (l + 1))) o6 (some x7) (some x8) (some (.loc (r.length + 1))) o10 o11 o12 o13 o14) = some (tE x0 o2 o3 (some (mD b M)) (some (.loc (l + 1))) o6 (some x7) (some x8) (some (.loc (r.length + 1))) (some (lotJ m j)) o11 o12 o13 o14) := fun _ => rfl
  have bt2 : ∀ (x8 x10 : D), bindT (.tp (.cons (.nm 11) (.cons (.nm 8) .nil))) (pr p) (tE x0 o2 o3 (some (mD b M)) (some (.loc (l + 1))) o6 (some x7) (some x8) (some (.loc (r.length + 1))) (some x10) o11 o12 o13 o14) = some (tE x0 o2 o3 (some (mD b M)) (some (.loc (l + 1))) o6 (some x7) (some (.int p.2)) (some (.loc (r.length + 1))) (some x10) (some (.int p.1)) o12 o13 o14) := fun _ _ => rfl
  rw [forF_ap, bt]
  have e9 : forB (tS 8) = .cons (.asg (.tp (.cons (.nm 11) (.cons (.nm 8) .nil))) (.idx (.idx (.idx (.var 4) (.int 1)) (.var 8)) (.me .idx (.var 5) (.cons (.var 10) .nil)))) (.cons (.expr (.app (.var 9) (.cons (.var 11) .nil))) .nil) := rfl
  rw [e9]
  dsimp only
  generalize lotJ m j = LD at *
  generalize (j : Int) = jj at *
  generalize Wl w (r ++ [.lst (st.1.map .int)]) = S at *
  have hE : evE (run tbl 1000 k) (.idx (.idx (.idx (.var 4) (.int 1)) (.var 8)) (.me .idx (.var 5) (.cons (.var 10) .nil))) (tE x0 o2 o3 (some (mD b M)) (some (.loc (l + 1))) o6 (some x7) (some (.int st.2)) (some (.loc (r.length + 1))) (some LD) o11 o12 o13 o14) S = .ok (.v (pr p)) S := by
    unfold tE
    simp [evE, evTs, mD, idxT, dicAt, seqOf, i1, e1, rowD, hll, hme, e2]
  generalize E.idx _ (E.me _ _ _) = ent at hE ⊢
  rw [seq_nx (ρ' := tE x0 o2 o3 (some (mD b M)) (some (.loc (l + 1))) o6 (some x7) (some (.int p.2)) (some (.loc (r.length + 1))) (some LD) (some (.int p.1)) o12 o13 o14) (s' := S) (by
    simp only [evS, hE, R.fl_ok, keepR_v, bt2])]
  unfold tE
  simp [evSs, evS, evE, evEs, hls, hap, Fl.then]
theorem T8 (hr : Cl r) {m n : Nat} {b : Int} {M : List (List (Int × Int))} (h : Mach m n b M) (hm : m ≤ 5) {l : Nat} (hl : r[l]? = some (.lst (lotsD m))) (js : List Nat) (hj : ∀ j ∈ js, j < 2 ^ m - 1) (hjl : js.length ≤ 60) :
    ∃ q10 q11, evS (run tbl 1000 k) 1000 (tS 8) (tE x0 o2 o3 (some (mD b M)) (some (.loc (l + 1))) o6 (some (.tup (js.map (lotJ m)))) (some (.int b)) (some (.loc (r.length + 1))) o10 o11 o12 o13 o14) (Wl w (r ++ [.lst []])) =
      .nx (tE x0 o2 o3 (some (mD b M)) (some (.loc (l + 1))) o6 (some (.tup (js.map (lotJ m)))) (some (.int (foldR M b js).2)) (some (.loc (r.length + 1))) q10 q11 o12 o13 o14) (Wl w (r ++ [.lst ((foldR M b js).1.map .int)])) := by
  obtain ⟨ρ', s', e, q10, q11, rfl, rfl⟩ := for_inv (F := forF (.nm 10) (evSs (run tbl 1000 k) 1000 (forB (tS 8)))) (A := lotJ m)
    (P := fun i ρ s => ∃ q10 q11, ρ = tE x0 o2 o3 (some (mD b M)) (some (.loc (l + 1))) o6 (some (.tup (js.map (lotJ m)))) (some (.int (foldR M b (js.take i)).2)) (some (.loc (r.length + 1))) q10 q11 o12 o13 o14 ∧ s = Wl w (r ++ [.lst ((foldR M b (js.take i)).1.map .int)])) js 0
    (tE x0 o2 o3 (some (mD b M)) (some (.loc (l + 1))) o6 (some (.tup (js.map (lotJ m)))) (some (.int b)) (some (.loc (r.length + 1))) o10 o11 o12 o13 o14) (Wl w (r ++ [.lst []]))
    (fun i j ρ s hy ⟨q10, q11, eρ, es⟩ => by
      subst es eρ
      rw [Nat.zero_add]
      obtain ⟨hi, ej⟩ := List.getElem?_eq_some_iff.mp hy
      have hjm : j ∈ js := ej ▸ List.getElem_mem hi
      have htk : js.take (i + 1) = js.take i ++ [j] := by rw [List.take_add_one, hy]; rfl
      have hfm := fold_mem h (js.take i) fun x hx => hj x (List.mem_of_mem_take hx)
      have hfl := fold_len M b (js.take i)
      have hle : (js.take i).length ≤ 60 := by rw [List.length_take]; omega
      rw [htk, foldR_snoc]
      exact ⟨_, _, .inl (t8_turn k hr h hm hl hfm.1 hfm.2 (by omega) (hj j hjm) _), _, _, rfl, rfl⟩) ⟨o10, o11, rfl, rfl⟩
  rw [Nat.zero_add, List.take_of_length_le (Nat.le_refl _)] at e
  refine ⟨q10, q11, ?_⟩
  have e9 : tS 8 = .for_ (.nm 10) (.seq (.var 7)) (forB (tS 8)) := rfl
  have hi : evIt (run tbl 1000 k) (.seq (.var 7)) (tE x0 o2 o3 (some (mD b M)) (some (.loc (l + 1))) o6 (some (.tup (js.map (lotJ m)))) (some (.int b)) (some (.loc (r.length + 1))) o10 o11 o12 o13 o14) (Wl w (r ++ [.lst []])) = .ok ⟨js.map (lotJ m), []⟩ (Wl w (r ++ [.lst []])) := by
    unfold tE
    simp [evIt, evE, itemsOf]
  rw [e9, evS, hi]
  exact e
theorem T9 {R : Sto} (hR : Cl R) (hr : Cl r) {m n : Nat} {b : Int} {M : List (List (Int × Int))} (h : Mach m n b M) (hm : m ≤ 5) (js : List Nat) (hj : ∀ j ∈ js, j < 2 ^ m - 1) (hjl : js.length ≤ 60) (eR : R = r ++ [.lst ((foldR M b js).1.map .int)]) :
    evS (run tbl 1000 (k+3)) 1000 (tS 9) (tE x0 o2 o3 (some (mD b M)) o5 o6 (some (.tup (js.map (lotJ m)))) (some (.int (foldR M b js).2)) (some (.loc (r.length + 1))) o10 o11 o12 o13 o14) (Wl w R) = .nx (tE x0 o2 o3 (some (mD b M)) o5 o6 (some (.tup (js.map (lotJ m)))) (some (.int (foldR M b js).2)) (some (.loc (r.length + 1))) o10 o11 o12 o13 o14) (Wl w R) := by
  have hL2 : (2 : Nat) ≤ LIM := by decide
  have e1 := run_by (k+1) h hm (w := w) hR js hj (by omega)
  have hfl := fold_len M b js
  have e2 : run tbl 1000 (k+3) "_law_like" [outD (foldR M b js), outD (foldR M b js)] (Wl w R) = .ok (.v (.bl true)) (Wl w R) := by
    refine like_tup (k+2) hR [.tup ((foldR M b js).1.map .int), .int (foldR M b js).2] (by simp) fun x hx => ?_
    simp only [List.mem_cons, List.not_mem_nil, or_false] at hx
    rcases hx with rfl | rfl
    · exact like_ints k hR _ (by omega)
    · exact like_int (k+1) hR _
  have hs1 : (Wl w R)[r.length + 1]? = some (.lst ((foldR M b js).1.map .int)) := by rw [eR, Wl_s]; simp
  have htu : biT .tuple [.v (.loc (r.length + 1))] (Wl w R) = some (.v (.tup ((foldR M b js).1.map .int))) := by simp only [biT, seqOf, lstOf, lstAt, hs1, Option.map_some]
  have hout : D.tup [.tup ((foldR M b js).1.map .int), .int (foldR M b js).2] = outD (foldR M b js) := rfl
  have e9 : tS 9 = .ite (.not1 (.call "_law_like" (.cons (.call "run_by" (.cons (.var 4) (.cons (.var 7) .nil))) (.cons (.tup (.cons (.bi .tuple (.cons (.var 9) .nil)) (.cons (.var 8) .nil))) .nil)))) (.cons (.ret (.bl false)) .nil) .nil := rfl
  rw [e9]
  unfold tE
  generalize outD (foldR M b js) = OO at *
  generalize (foldR M b js).1.map D.int = F1 at *
  generalize (foldR M b js).2 = F2 at *
  generalize js.map (lotJ m) = JJ at *
  generalize mD b M = MD at *
  generalize Wl w R = S at *
  simp [evS, evSs, evE, evEs, evTs, e1, htu, hL2, hout, e2, truth]
def wrongs : List D := [.int 0, .int 6, .int (-1), .non, .bl true, .str "1", .tup [.int 1], .int 1000000000000000000000000000000]
theorem T10 (hr : Cl r) (hw : Ok c w) (hc : c + 1 ≤ 1000000000) : ∃ (d : D) (w' : Int × Int × Int) (x : Sto), siz 5 d = false ∧ (∀ S, vd S d = true) ∧ Ok (c + 1) w' ∧ Cl (r ++ x) ∧
    evS (run tbl 1000 (k+2)) 1000 (tS 10) (tE x0 o2 o3 o4 o5 o6 o7 o8 o9 o10 o11 o12 o13 o14) (Wl w r) = .nx (tE x0 o2 o3 o4 o5 o6 o7 o8 o9 o10 o11 (some d) o13 o14) (Wl w' (r ++ x)) := by
  have hL1 : (1 : Nat) ≤ LIM := by decide
  have hL8 : (8 : Nat) ≤ LIM := by decide
  have c1 : Cl (r ++ [O.lst wrongs]) := hr.snoc (by simp [wrongs, O.under, D.unders, D.under])
  obtain ⟨i, d, w', hi, o, e⟩ := one' k (j := r.length) (xs := wrongs) hw hc c1 (by simp) (by simp [wrongs]) (by simp [wrongs])
  have md := List.mem_of_getElem? hi
  refine ⟨d, w', [.lst wrongs], ?_, ?_, o, c1, ?_⟩
  · simp only [wrongs, List.mem_cons, List.not_mem_nil, or_false] at md
    rcases md with rfl | rfl | rfl | rfl | rfl | rfl | rfl | rfl <;> rfl
  · intro S
    simp only [wrongs, List.mem_cons, List.not_mem_nil, or_false] at md
    rcases md with rfl | rfl | rfl | rfl | rfl | rfl | rfl | rfl <;> rfl
  · have hpow : ∀ s, binT .pow (.v (.int 10)) (.v (.int 30)) s = some (.v (.int 1000000000000000000000000000000)) := fun s => by
      simp [binT]
    have e9 : tS 10 = .asg (.nm 12) (.call "_law_one" (.cons (.var 1) (.cons (.lst (.cons (.int 0) (.cons (.int 6) (.cons (.neg (.int 1)) (.cons .non (.cons (.bl true) (.cons (.str "1") (.cons (.tup (.cons (.int 1) .nil)) (.cons (.bin .pow (.int 10) (.int 30)) .nil))))))))) .nil))) := rfl
    rw [e9]
    unfold tE
    unfold wrongs at e ⊢
    simp [evS, evE, evEs, hL1, hL8, hpow, Wl_len, Wl_app, e, bindT]
theorem T11 (hr : Cl r) {d : D} (hd : vd (Wl w r) d = true) (h0 : siz 5 d = false) : evS (run tbl 1000 (k+4)) 1000 (tS 11) (tE x0 o2 o3 o4 o5 o6 o7 o8 o9 o10 o11 (some d) o13 o14) (Wl w r) = .nx (tE x0 o2 o3 o4 o5 o6 o7 o8 o9 o10 o11 (some d) o13 o14) (Wl w r) := by
  have e1 := lots_no k hr hd h0
  have e9 : tS 11 = .ite (.cmp .ne (.heard "_law_heard" "Refused" (.call "lots_of" (.cons (.var 12) .nil))) (.str "many")) (.cons (.ret (.bl false)) .nil) .nil := rfl
  rw [e9]
  unfold tE
  simp [evS, evSs, evE, evEs, e1, cmpT, eqT, truth]
theorem T12 (hr : Cl r) {d x4 : D} (hd : vd (Wl w r) d = true) (h0 : siz 5 d = false) : evS (run tbl 1000 (k+4)) 1000 (tS 12) (tE x0 o2 o3 (some x4) o5 o6 o7 o8 o9 o10 o11 (some d) o13 o14) (Wl w r) = .nx (tE x0 o2 o3 (some x4) o5 o6 o7 o8 o9 o10 o11 (some d) o13 o14) (Wl w r) := by
  have e1 := machine_no k (x := x4) hr hd h0
  have e9 : tS 12 = .ite (.cmp .ne (.heard "_law_heard" "Refused" (.call "is_machine" (.cons (.var 12) (.cons (.var 4) .nil)))) (.str "many")) (.cons (.ret (.bl false)) .nil) .nil := rfl
  rw [e9]
  unfold tE
  simp [evS, evSs, evE, evEs, e1, cmpT, eqT, truth]
/-- a turn -/
theorem turn (hr : Cl r) (hw : Ok c w) (hc : c + 2000 ≤ 1000000000) (i : Int) : ∃ (w' : Int × Int × Int) (r' : Sto) (q2 q4 q5 q6 q7 q8 q9 q10 q11 q12 : Option D), Ok (c + 2000) w' ∧ Cl r' ∧
    forF (.nm 3) (evSs (run tbl 1000 (k+8)) 1000 tB) (.int i) (tE x0 o2 o3 o4 o5 o6 o7 o8 o9 o10 o11 o12 o13 o14) (Wl w r) = .nx (tE x0 q2 (some (.int i)) q4 q5 q6 q7 q8 q9 q10 q11 q12 o13 o14) (Wl w' r') := by
  have bt : bindT (.nm 3) (.int i) (tE x0 o2 o3 o4 o5 o6 o7 o8 o9 o10 o11 o12 o13 o14) = some (tE x0 o2 (some (.int i)) o4 o5 o6 o7 o8 o9 o10 o11 o12 o13 o14) := rfl
  obtain ⟨m, w0, h1, hm, a0, t0⟩ := T0 (k+7) (x0 := x0) (o2 := o2) (o3 := some (.int i)) (o4 := o4) (o5 := o5) (o6 := o6) (o7 := o7) (o8 := o8) (o9 := o9) (o10 := o10) (o11 := o11) (o12 := o12) (o13 := o13) (o14 := o14) hr hw (by omega)
  obtain ⟨n, b, M, w1, hM, a1, t1⟩ := T1 (k+6) (x0 := x0) (o3 := some (.int i)) (o4 := o4) (o5 := o5) (o6 := o6) (o7 := o7) (o8 := o8) (o9 := o9) (o10 := o10) (o11 := o11) (o12 := o12) (o13 := o13) (o14 := o14) hr a0 (by omega) h1 hm
  have c1 : Cl (r ++ [O.lst (lotsD m)]) := hr.snoc (by simp only [O.under]; exact unders_le (Nat.zero_le _) _ (under_lots _))
  obtain ⟨w2, x2, a2, c2, t2⟩ := T2 (k+3) (x0 := x0) (o3 := some (.int i)) (o5 := some (.loc (r.length + 1))) (o6 := o6) (o7 := o7) (o8 := o8) (o9 := o9) (o10 := o10) (o11 := o11) (o12 := o12) (o13 := o13) (o14 := o14) c1 a1 (by omega) hM h1 hm
  obtain ⟨w3, x3, a3, c3, t3⟩ := T3 (k+1) (x0 := x0) (o3 := some (.int i)) (o5 := some (.loc (r.length + 1))) (o6 := o6) (o7 := o7) (o8 := o8) (o9 := o9) (o10 := o10) (o11 := o11) (o12 := o12) (o13 := o13) (o14 := o14) c2 a2 (by omega) hM h1 hm
  obtain ⟨m', w4, h1', hm', a4, t4⟩ := T4 (k+7) (x0 := x0) (o2 := some (.int (m : Int))) (o3 := some (.int i)) (o4 := some (mD b M)) (o5 := some (.loc (r.length + 1))) (o6 := o6) (o7 := o7) (o8 := o8) (o9 := o9) (o10 := o10) (o11 := o11) (o12 := o12) (o13 := o13) (o14 := o14) c3 a3 (by omega)
  have t5 := T5 (k+3) (w := w4) (x0 := x0) (o3 := some (.int i)) (o5 := some (.loc (r.length + 1))) (o7 := o7) (o8 := o8) (o9 := o9) (o10 := o10) (o11 := o11) (o12 := o12) (o13 := o13) (o14 := o14) c3 hM h1 h1' hm'
  have hl : (r ++ [O.lst (lotsD m)] ++ x2 ++ x3)[r.length]? = some (.lst (lotsD m)) := by simp
  obtain ⟨js, w5, x5, hj, hjl, a5, c5, t6⟩ := T6 (k+6) (x0 := x0) (o2 := some (.int (m : Int))) (o3 := some (.int i)) (o4 := some (mD b M)) (o6 := some (.int (m' : Int))) (o7 := o7) (o8 := o8) (o9 := o9) (o10 := o10) (o11 := o11) (o12 := o12) (o13 := o13) (o14 := o14) c3 a4 (by omega) h1 hm hl
  have hl5 : (r ++ [O.lst (lotsD m)] ++ x2 ++ x3 ++ x5)[r.length]? = some (.lst (lotsD m)) := by simp
  generalize hR5 : r ++ [O.lst (lotsD m)] ++ x2 ++ x3 ++ x5 = R5 at *
  have t7 := T7 (k+8) (w := w5) (r := R5) (x0 := x0) (o2 := some (.int (m : Int))) (o3 := some (.int i)) (o5 := some (.loc (r.length + 1))) (o6 := some (.int (m' : Int))) (o7 := some (.tup (js.map (lotJ m)))) (o8 := o8) (o9 := o9) (o10 := o10) (o11 := o11) (o12 := o12) (o13 := o13) (o14 := o14) (b := b) (M := M)
  obtain ⟨q10, q11, t8⟩ := T8 (k+8) (w := w5) (x0 := x0) (o2 := some (.int (m : Int))) (o3 := some (.int i)) (o6 := some (.int (m' : Int))) (o10 := o10) (o11 := o11) (o12 := o12) (o13 := o13) (o14 := o14) c5 hM hm hl5 js hj hjl
  obtain ⟨R6, hR6⟩ : ∃ R6, R6 = R5 ++ [O.lst ((foldR M b js).1.map .int)] := ⟨_, rfl⟩
  have c6 : Cl R6 := by rw [hR6]; exact c5.snoc (by simp only [O.under]; exact under_is _ _)
  have t9 := T9 (k+5) (w := w5) (x0 := x0) (o2 := some (.int (m : Int))) (o3 := some (.int i)) (o5 := some (.loc (r.length + 1))) (o6 := some (.int (m' : Int))) (o10 := q10) (o11 := q11) (o12 := o12) (o13 := o13) (o14 := o14) c6 c5 hM hm js hj hjl hR6
  rw [← hR6] at t8
  obtain ⟨d, w7, x7, d0, dv, a7, c7, t10⟩ := T10 (k+6) (x0 := x0) (o2 := some (.int (m : Int))) (o3 := some (.int i)) (o4 := some (mD b M)) (o5 := some (.loc (r.length + 1))) (o6 := some (.int (m' : Int))) (o7 := some (.tup (js.map (lotJ m)))) (o8 := some (.int (foldR M b js).2)) (o9 := some (.loc (R5.length + 1))) (o10 := q10) (o11 := q11) (o12 := o12) (o13 := o13) (o14 := o14) c6 a5 (by omega)
  have t11 := T11 (k+4) (w := w7) (x0 := x0) (o2 := some (.int (m : Int))) (o3 := some (.int i)) (o4 := some (mD b M)) (o5 := some (.loc (r.length + 1))) (o6 := some (.int (m' : Int))) (o7 := some (.tup (js.map (lotJ m)))) (o8 := some (.int (foldR M b js).2)) (o9 := some (.loc (R5.length + 1))) (o10 := q10) (o11 := q11) (o13 := o13) (o14 := o14) c7 (dv _) d0
  have t12 := T12 (k+4) (w := w7) (x0 := x0) (o2 := some (.int (m : Int))) (o3 := some (.int i)) (x4 := mD b M) (o5 := some (.loc (r.length + 1))) (o6 := some (.int (m' : Int))) (o7 := some (.tup (js.map (lotJ m)))) (o8 := some (.int (foldR M b js).2)) (o9 := some (.loc (R5.length + 1))) (o10 := q10) (o11 := q11) (o13 := o13) (o14 := o14) c7 (dv _) d0
  refine ⟨w7, R6 ++ x7, some (.int (m : Int)), some (mD b M), some (.loc (r.length + 1)), some (.int (m' : Int)), some (.tup (js.map (lotJ m))), some (.int (foldR M b js).2), some (.loc (R5.length + 1)), q10, q11, some d, a7.le (by omega) hc, c7, ?_⟩
  rw [forF_ap, bt, t_text]
  dsimp only
  rw [seq_nx t0, seq_nx t1, seq_nx t2, seq_nx t3, seq_nx t4, seq_nx t5, seq_nx t6, seq_nx t7, seq_nx t8, seq_nx t9, seq_nx t10, seq_nx t11, seq_nx t12]
  simp only [evSs]
end
end K61
end
section
set_option maxRecDepth 100000
set_option maxHeartbeats 2000000
set_option linter.unusedSimpArgs false
namespace K61
open Fy
open PySem (PyData)
theorem turns (k : Nat) (x0 : D) (is : List Nat) {c : Int} {w : Int × Int × Int} {r : Sto} (hr : Cl r) (hw : Ok c w) (hc : c + 2000 * (is.length : Int) ≤ 1000000000) (o2 o3 o4 o5 o6 o7 o8 o9 o10 o11 o12 o13 o14 : Option D) :
    ∃ w' r' q2 q3 q4 q5 q6 q7 q8 q9 q10 q11 q12, Cl r' ∧ forLoop (forF (.nm 3) (evSs (run tbl 1000 (k+8)) 1000 tB)) [] (is.map fun i : Nat => D.int (i : Int)) (tE x0 o2 o3 o4 o5 o6 o7 o8 o9 o10 o11 o12 o13 o14) (Wl w r) = .nx (tE x0 q2 q3 q4 q5 q6 q7 q8 q9 q10 q11 q12 o13 o14) (Wl w' r') := by
  induction is generalizing c w r o2 o3 o4 o5 o6 o7 o8 o9 o10 o11 o12 with
  | nil => exact ⟨w, r, o2, o3, o4, o5, o6, o7, o8, o9, o10, o11, o12, hr, by simp [forLoop, stands]⟩
  | cons i is ih =>
    simp only [List.length_cons, Int.natCast_add, Int.natCast_one, Int.mul_add, Int.mul_one] at hc
    have h0 : 0 ≤ (is.length : Int) := Int.natCast_nonneg _
    obtain ⟨w1, r1, q2, q4, q5, q6, q7, q8, q9, q10, q11, q12, o1, c1, e1⟩ := turn k (x0 := x0) (o2 := o2) (o3 := o3) (o4 := o4) (o5 := o5) (o6 := o6) (o7 := o7) (o8 := o8) (o9 := o9) (o10 := o10) (o11 := o11) (o12 := o12) (o13 := o13) (o14 := o14) hr hw (by omega) (i : Int)
    obtain ⟨w', r', p2, p3, p4, p5, p6, p7, p8, p9, p10, p11, p12, c2, e2⟩ := ih c1 o1 (by omega) q2 (some (.int (i : Int))) q4 q5 q6 q7 q8 q9 q10 q11 q12
    refine ⟨w', r', p2, p3, p4, p5, p6, p7, p8, p9, p10, p11, p12, c2, ?_⟩
    simp only [List.map_cons, forLoop, stands, List.all_nil, if_true, e1, Fl.turn]
    exact e2
/-! the great machines -/
def X1 : D := .tup [.tup [.int 0, .int 0]]
theorem flat_one {α : Type} (x : α) : ∀ q : Nat, (List.replicate q [x]).flatten = List.replicate q x
  | 0 => rfl
  | q + 1 => by rw [List.replicate_succ, List.flatten_cons, flat_one x q, List.replicate_succ]; rfl
theorem mul_X {q : Nat} (h2 : 2 ≤ q) (h3 : q ≤ 10000) (s : Sto) : binT .mul (.v (.tup [X1])) (.v (.int (q : Int))) s = some (.v (.tup (List.replicate q X1))) := by
  have : binT .mul (.v (.tup [X1])) (.v (.int (q : Int))) s = if 2 ≤ (q : Int) ∧ (q : Int) ≤ 10000 ∧ [X1].length ≤ 1000 ∧ [X1] ≠ [] then some (.v (.tup (List.replicate (q : Int).toNat [X1]).flatten)) else none := rfl
  rw [this, if_pos ⟨by omega, by omega, by simp, by simp⟩, Int.toNat_natCast, flat_one]
theorem mem_X (q : Nat) (h : 1 ≤ q) : memB 1 (q : Int) X1 = true := by
  have h0 : (0 : Int) ≤ (q : Int) - 1 := by omega
  have h1 : (0 : Int) ∈ lotAt 1 1 := by decide
  have h2 : pairB 1 (q : Int) 0 (.tup [.int 0, .int 0]) = true := by
    have h3 : (1 : Int) ≤ (q : Int) := by omega
    rw [pairB_two]
    simp [num, inLot, h3, h1]
  simp [X1, memB, h2]
theorem mach_X {q : Nat} (h : 1 ≤ q) : machB 1 (.tup [.int 0, .tup (List.replicate q X1)]) = decide (q ≤ 5000) := by
  have h0 : (0 : Int) ≤ (q : Int) - 1 := by omega
  have ha : ((List.replicate q X1).all fun row => memB 1 (q : Int) row) = true := by
    rw [List.all_eq_true]
    intro x hx
    rw [List.eq_of_mem_replicate hx]
    exact mem_X q h
  have hq : (0 : Int) < (q : Int) := by omega
  have e : decide ((q : Int) ≤ 5000) = decide (q ≤ 5000) := decide_eq_decide.mpr (by omega)
  simp only [machB, List.length_replicate, ha, siz, num, hq, h0, decide_true, Bool.and_true, Bool.true_and, Int.le_refl, e]
theorem vd_X (S : Sto) (q : Nat) : vd S (.tup [.int 0, .tup (List.replicate q X1)]) = true := by
  have : vds S (List.replicate q X1) = true := vds_of fun x hx => by rw [List.eq_of_mem_replicate hx]; rfl
  simp [vd, vds, this]
theorem fin : ∀ ns : List Int, ns.length ≤ 63 → ∃ s, run tbl 1000 14 "law" [.fro (ns.map .int)] [] = .ok (.v (.bl true)) s := by
  intro ns hn
  obtain ⟨w, hw, ew⟩ := well 12 ns hn
  have hp : Cl [] := rfl
  obtain ⟨q2, e1⟩ := first 8 (w := w) hp (.fro (ns.map .int)) none none none none none none none none none none none none [1, 2, 3, 4, 5] none (by simp)
  obtain ⟨w', r', p2, p3, p4, p5, p6, p7, p8, p9, p10, p11, p12, c2, e2⟩ := turns 5 (.fro (ns.map .int)) (List.range 6) hp hw (by simp) q2 none none none none none none none none none none none none
  have r15 : rangeOf [.int 1, .int 6] = some ⟨[1, 2, 3, 4, 5].map fun m : Nat => D.int (m : Int), []⟩ := rng_of (a := 1) (b := 6) (by decide) (by decide)
  have r06 : rangeOf [.int 6] = some ⟨(List.range 6).map fun i : Nat => D.int (i : Int), []⟩ := rng0 (b := 6) (by decide)
  have e8 : f_law = ⟨1, 15, [], .cons (.asg (.nm 1) (.call "_law_well" (.cons (.var 0) (.cons (.int 0) .nil)))) (.cons (.for_ (.nm 2) (.rng (.cons (.int 1) (.cons (.int 6) .nil))) (forB (nth f_law.body 1))) (.cons (.for_ (.nm 3) (.rng (.cons (.int 6) .nil)) tB) (.cons (nth f_law.body 3) (.cons (nth f_law.body 4) .nil))))⟩ := rfl
  have m1 : ∀ s, binT .mul (.v (.tup [X1])) (.v (.int 5000)) s = some (.v (.tup (List.replicate 5000 X1))) := fun s => mul_X (q := 5000) (by decide) (by decide) s
  have m2 : ∀ s, binT .mul (.v (.tup [X1])) (.v (.int 5001)) s = some (.v (.tup (List.replicate 5001 X1))) := fun s => mul_X (q := 5001) (by decide) (by decide) s
  have g1 := is_machine 8 (w := w') c2 (m := 1) (by decide) (by decide) _ (vd_X (Wl w' r') 5000)
  have g2 := is_machine 8 (w := w') c2 (m := 1) (by decide) (by decide) _ (vd_X (Wl w' r') 5001)
  have d1 : decide ((5000 : Nat) ≤ 5000) = true := by decide
  have d2 : decide ((5001 : Nat) ≤ 5000) = false := by decide
  rw [mach_X (by decide), d1] at g1
  rw [mach_X (by decide), d2] at g2
  generalize hA : List.replicate 5000 X1 = A at m1 g1
  generalize hB : List.replicate 5001 X1 = B at m2 g2
  have hL1 : (1 : Nat) ≤ LIM := by decide
  have hL2 : (2 : Nat) ≤ LIM := by decide
  have iA : L2.atI [D.tup A, D.tup B] 0 = some (.tup A) := rfl
  have iB : L2.atI [D.tup A, D.tup B] 1 = some (.tup B) := rfl
  have st3 : ∀ S, evS (run tbl 1000 13) 1000 (nth f_law.body 3) (tE (.fro (ns.map .int)) p2 p3 p4 p5 p6 p7 p8 p9 p10 p11 p12 none none) S = .nx (tE (.fro (ns.map .int)) p2 p3 p4 p5 p6 p7 p8 p9 p10 p11 p12 (some (.tup [.tup A, .tup B])) none) S := fun S => by
    have e9 : nth f_law.body 3 = .asg (.nm 13) (.tup (.cons (.bin .mul (.tup (.cons (.tup (.cons (.tup (.cons (.int 0) (.cons (.int 0) .nil))) .nil)) .nil)) (.int 5000)) (.cons (.bin .mul (.tup (.cons (.tup (.cons (.tup (.cons (.int 0) (.cons (.int 0) .nil))) .nil)) .nil)) (.int 5001)) .nil))) := rfl
    rw [e9]
    unfold tE
    unfold X1 at m1 m2
    simp [evS, evE, evEs, hL1, hL2, m1, m2, bindT]
  have st4 : evS (run tbl 1000 13) 1000 (nth f_law.body 4) (tE (.fro (ns.map .int)) p2 p3 p4 p5 p6 p7 p8 p9 p10 p11 p12 (some (.tup [.tup A, .tup B])) none) (Wl w' r') = .rt (.v (.bl true)) (Wl w' r') := by
    have e9 : nth f_law.body 4 = .ret (.and2 (.cmp .is (.call "is_machine" (.cons (.int 1) (.cons (.tup (.cons (.int 0) (.cons (.idx (.var 13) (.int 0)) .nil))) .nil))) (.bl true)) (.cmp .is (.call "is_machine" (.cons (.int 1) (.cons (.tup (.cons (.int 0) (.cons (.idx (.var 13) (.int 1)) .nil))) .nil))) (.bl false))) := rfl
    rw [e9]
    unfold tE
    have g1' : run tbl 1000 13 "is_machine" [.int 1, .tup [.int 0, .tup A]] (Wl w' r') = .ok (.v (.bl true)) (Wl w' r') := g1
    have g2' : run tbl 1000 13 "is_machine" [.int 1, .tup [.int 0, .tup B]] (Wl w' r') = .ok (.v (.bl false)) (Wl w' r') := g2
    generalize Wl w' r' = S at *
    simp [evS, evE, evEs, hL2, idxT, dicAt, seqOf, iA, iB, g1', g2', cmpT, isT, truth]
  rw [run, tbl_law, e8]
  simp only [Fn.fill, List.append_nil, List.drop_nil, List.length_cons, List.length_nil, Nat.zero_add, if_true, List.map_cons, List.map_nil, Nat.reduceSub, Nat.reduceAdd, List.replicate, List.cons_append, List.nil_append]
  rw [seq_nx (ρ' := tE (.fro (ns.map .int)) none none none none none none none none none none none none none) (s' := Wl w []) (by
    unfold tE
    simp [evS, evE, evEs, ew, bindT, Wl])]
  rw [for_then (I := ⟨[1, 2, 3, 4, 5].map fun m : Nat => D.int (m : Int), []⟩) (s' := Wl w []) (by simp only [evIt, evEs, evE, R.bind_ok, keepR_v, r15, ofO_some])]
  dsimp only
  have e1' : forLoop (forF (.nm 2) (evSs (run tbl 1000 13) 1000 (forB (nth f_law.body 1)))) [] ([1, 2, 3, 4, 5].map fun m : Nat => D.int (m : Int)) (tE (.fro (ns.map .int)) none none none none none none none none none none none none none) (Wl w []) = .nx (tE (.fro (ns.map .int)) q2 none none none none none none none none none none none none) (Wl w []) := e1
  rw [e1']
  simp only [Fl.then]
  rw [for_then (I := ⟨(List.range 6).map fun i : Nat => D.int (i : Int), []⟩) (s' := Wl w []) (by simp only [evIt, evEs, evE, R.bind_ok, keepR_v, r06, ofO_some])]
  dsimp only
  have e2' : forLoop (forF (.nm 3) (evSs (run tbl 1000 13) 1000 tB)) [] ((List.range 6).map fun i : Nat => D.int (i : Int)) (tE (.fro (ns.map .int)) q2 none none none none none none none none none none none none) (Wl w []) = .nx (tE (.fro (ns.map .int)) p2 p3 p4 p5 p6 p7 p8 p9 p10 p11 p12 none none) (Wl w' r') := e2
  rw [e2']
  simp only [Fl.then]
  rw [seq_nx (st3 _), seq_rt st4]
  exact ⟨[], by simp [Fl.res, tidy, D.under]⟩
end K61
end
section
set_option Elab.async false
set_option linter.all false
set_option maxRecDepth 100000
set_option maxHeartbeats 0
namespace K61
open PySem L2 Fy
theorem all_mk {P : Program} {w : World} {K : PySem.W.Frag} {h : Heap} {mg : Str → Option Value} {fa : Addr} (X : K.In h) (G : h.Ns mainGlobals mg) (hfa : mg "law" = some (.ref fa))
    {f0 f1 f2 f3 f4 f5 f6 f7 f8 f9 f10 f11 f12 f13 f14 f15 f16 f17 f18 f19 f20 : Addr}
    {od0 an0 od1 an1 od2 an2 od3 an3 od4 an4 od5 an5 od6 an6 od7 an7 od8 an8 od9 an9 od10 an10 od11 an11 od12 an12 od13 an13 od14 an14 od15 an15 od16 an16 od17 an17 od18 an18 od19 an19 od20 an20 : Option Addr}
    {sl0 sl1 sl2 sl3 sl4 sl5 sl6 sl7 sl8 sl9 sl10 sl11 sl12 sl13 sl14 sl15 sl16 sl17 sl18 sl19 sl20 : Array (Option Value)}
    {oc0 kV0 dc0 pm0 ct0 oc1 kV1 dc1 pm1 ct1 oc2 kV2 dc2 pm2 ct2 oc3 kV3 dc3 pm3 ct3 oc4 kV4 dc4 pm4 ct4 oc5 kV5 dc5 pm5 ct5 oc6 kV6 dc6 pm6 ct6 oc7 kV7 dc7 pm7 ct7 oc8 kV8 dc8 pm8 ct8 oc9 kV9 dc9 pm9 ct9 oc10 kV10 dc10 pm10 ct10 oc11 kV11 dc11 pm11 ct11 oc12 kV12 dc12 pm12 ct12 oc13 kV13 dc13 pm13 ct13 oc14 kV14 dc14 pm14 ct14 oc15 kV15 dc15 pm15 ct15 oc16 kV16 dc16 pm16 ct16 oc17 kV17 dc17 pm17 ct17 oc18 kV18 dc18 pm18 ct18 oc19 kV19 dc19 pm19 ct19 oc20 kV20 dc20 pm20 ct20 : Value}
    {cd0 cd1 cd2 cd3 cd4 cd5 cd6 cd7 cd8 cd9 cd10 cd11 cd12 cd13 cd14 cd15 cd16 cd17 cd18 cd19 : Value}
    {cA20 pA20 : Addr}
    {dA1 : Addr}
    {dO1 : Option Addr}
    {dS1 : Array (Option Value)}
    {dC1 : Value}
    {dN1 : Nat}
    {dI1 : Array Value}
    {q0t : Tok}
    {q1t : Tok}
    {q2_0t : Tok}
    {q2_1t : Tok}
    {q2_2t : Tok}
    {q2_3t : Tok}
    {q2_4t : Tok}
    {q2_5t : Tok}
    {q2A : Addr}
    {q2O : Option Addr}
    {q2S : Array (Option Value)}
    {q2N : Nat}
    {x0C x0fI x0cc x0cda : Addr}
    {x0ocl x0kV x0doc x0pm x0ct x0oc x0ccl : Value}
    {x0an x0od x0cld x0cdd : Option Addr}
    {x0sl x0csl x0ccs : Array (Option Value)}
    {x0vs : Array Value}
    {x0file :  Str}
    {x0tf : Tok}
    {x0qual : Str}
    (a0 : PySem.W.nsIn K mainGlobals "is_integer" = some (some (.ref f0)))
    (l0 : K.lookup f0 = some ⟨oc0, od0, .func (PySem.W.fnOf "is_integer" "is_integer" (defArgs st_is_integer) (defBody st_is_integer) (defScope st_is_integer) .none kV0 dc0 pm0 an0 cd0 ct0), sl0⟩)
    (c0 : PySem.W.codeIn K cd0 "is_integer" = true)
    (k0 : PySem.W.keepIn K (.ref f0) = true)
    (a1 : PySem.W.nsIn K mainGlobals "is_number" = some (some (.ref f1)))
    (l1 : K.lookup f1 = some ⟨oc1, od1, .func (PySem.W.fnOf "is_number" "is_number" (defArgs st_is_number) (defBody st_is_number) (defScope st_is_number) (.ref dA1) kV1 dc1 pm1 an1 cd1 ct1), sl1⟩)
    (c1 : PySem.W.codeIn K cd1 "is_number" = true)
    (k1 : PySem.W.keepIn K (.ref f1) = true)
    (d1 : K.lookup dA1 = some ⟨dC1, dO1, .seq dI1 dN1, dS1⟩)
    (e1 : dI1 = #[.none])
    (a2 : PySem.W.nsIn K mainGlobals "is_size" = some (some (.ref f2)))
    (l2 : K.lookup f2 = some ⟨oc2, od2, .func (PySem.W.fnOf "is_size" "is_size" (defArgs st_is_size) (defBody st_is_size) (defScope st_is_size) .none kV2 dc2 pm2 an2 cd2 ct2), sl2⟩)
    (c2 : PySem.W.codeIn K cd2 "is_size" = true)
    (k2 : PySem.W.keepIn K (.ref f2) = true)
    (a3 : PySem.W.nsIn K mainGlobals "lot_at" = some (some (.ref f3)))
    (l3 : K.lookup f3 = some ⟨oc3, od3, .func (PySem.W.fnOf "lot_at" "lot_at" (defArgs st_lot_at) (defBody st_lot_at) (defScope st_lot_at) .none kV3 dc3 pm3 an3 cd3 ct3), sl3⟩)
    (c3 : PySem.W.codeIn K cd3 "lot_at" = true)
    (k3 : PySem.W.keepIn K (.ref f3) = true)
    (a4 : PySem.W.nsIn K mainGlobals "number_at" = some (some (.ref f4)))
    (l4 : K.lookup f4 = some ⟨oc4, od4, .func (PySem.W.fnOf "number_at" "number_at" (defArgs st_number_at) (defBody st_number_at) (defScope st_number_at) .none kV4 dc4 pm4 an4 cd4 ct4), sl4⟩)
    (c4 : PySem.W.codeIn K cd4 "number_at" = true)
    (k4 : PySem.W.keepIn K (.ref f4) = true)
    (a5 : PySem.W.nsIn K mainGlobals "lots_of" = some (some (.ref f5)))
    (l5 : K.lookup f5 = some ⟨oc5, od5, .func (PySem.W.fnOf "lots_of" "lots_of" (defArgs st_lots_of) (defBody st_lots_of) (defScope st_lots_of) .none kV5 dc5 pm5 an5 cd5 ct5), sl5⟩)
    (c5 : PySem.W.codeIn K cd5 "lots_of" = true)
    (k5 : PySem.W.keepIn K (.ref f5) = true)
    (a6 : PySem.W.nsIn K mainGlobals "is_memory" = some (some (.ref f6)))
    (l6 : K.lookup f6 = some ⟨oc6, od6, .func (PySem.W.fnOf "is_memory" "is_memory" (defArgs st_is_memory) (defBody st_is_memory) (defScope st_is_memory) .none kV6 dc6 pm6 an6 cd6 ct6), sl6⟩)
    (c6 : PySem.W.codeIn K cd6 "is_memory" = true)
    (k6 : PySem.W.keepIn K (.ref f6) = true)
    (a7 : PySem.W.nsIn K mainGlobals "is_machine" = some (some (.ref f7)))
    (l7 : K.lookup f7 = some ⟨oc7, od7, .func (PySem.W.fnOf "is_machine" "is_machine" (defArgs st_is_machine) (defBody st_is_machine) (defScope st_is_machine) .none kV7 dc7 pm7 an7 cd7 ct7), sl7⟩)
    (c7 : PySem.W.codeIn K cd7 "is_machine" = true)
    (k7 : PySem.W.keepIn K (.ref f7) = true)
    (a8 : PySem.W.nsIn K mainGlobals "run_by" = some (some (.ref f8)))
    (l8 : K.lookup f8 = some ⟨oc8, od8, .func (PySem.W.fnOf "run_by" "run_by" (defArgs st_run_by) (defBody st_run_by) (defScope st_run_by) .none kV8 dc8 pm8 an8 cd8 ct8), sl8⟩)
    (c8 : PySem.W.codeIn K cd8 "run_by" = true)
    (k8 : PySem.W.keepIn K (.ref f8) = true)
    (a9 : PySem.W.nsIn K mainGlobals "memories_of" = some (some (.ref f9)))
    (l9 : K.lookup f9 = some ⟨oc9, od9, .func (PySem.W.fnOf "memories_of" "memories_of" (defArgs st_memories_of) (defBody st_memories_of) (defScope st_memories_of) .none kV9 dc9 pm9 an9 cd9 ct9), sl9⟩)
    (c9 : PySem.W.codeIn K cd9 "memories_of" = true)
    (k9 : PySem.W.keepIn K (.ref f9) = true)
    (a10 : PySem.W.nsIn K mainGlobals "_law_well" = some (some (.ref f10)))
    (l10 : K.lookup f10 = some ⟨oc10, od10, .func (PySem.W.fnOf "_law_well" "_law_well" (defArgs st__law_well) (defBody st__law_well) (defScope st__law_well) .none kV10 dc10 pm10 an10 cd10 ct10), sl10⟩)
    (c10 : PySem.W.codeIn K cd10 "_law_well" = true)
    (k10 : PySem.W.keepIn K (.ref f10) = true)
    (a11 : PySem.W.nsIn K mainGlobals "_law_dip" = some (some (.ref f11)))
    (l11 : K.lookup f11 = some ⟨oc11, od11, .func (PySem.W.fnOf "_law_dip" "_law_dip" (defArgs st__law_dip) (defBody st__law_dip) (defScope st__law_dip) .none kV11 dc11 pm11 an11 cd11 ct11), sl11⟩)
    (c11 : PySem.W.codeIn K cd11 "_law_dip" = true)
    (k11 : PySem.W.keepIn K (.ref f11) = true)
    (a12 : PySem.W.nsIn K mainGlobals "_law_one" = some (some (.ref f12)))
    (l12 : K.lookup f12 = some ⟨oc12, od12, .func (PySem.W.fnOf "_law_one" "_law_one" (defArgs st__law_one) (defBody st__law_one) (defScope st__law_one) .none kV12 dc12 pm12 an12 cd12 ct12), sl12⟩)
    (c12 : PySem.W.codeIn K cd12 "_law_one" = true)
    (k12 : PySem.W.keepIn K (.ref f12) = true)
    (a13 : PySem.W.nsIn K mainGlobals "_law_like" = some (some (.ref f13)))
    (l13 : K.lookup f13 = some ⟨oc13, od13, .func (PySem.W.fnOf "_law_like" "_law_like" (defArgs st__law_like) (defBody st__law_like) (defScope st__law_like) .none kV13 dc13 pm13 an13 cd13 ct13), sl13⟩)
    (c13 : PySem.W.codeIn K cd13 "_law_like" = true)
    (k13 : PySem.W.keepIn K (.ref f13) = true)
    (a14 : PySem.W.nsIn K mainGlobals "_law_heard" = some (some (.ref f14)))
    (l14 : K.lookup f14 = some ⟨oc14, od14, .func (PySem.W.fnOf "_law_heard" "_law_heard" (defArgs st__law_heard) (defBody st__law_heard) (defScope st__law_heard) .none kV14 dc14 pm14 an14 cd14 ct14), sl14⟩)
    (c14 : PySem.W.codeIn K cd14 "_law_heard" = true)
    (k14 : PySem.W.keepIn K (.ref f14) = true)
    (a15 : PySem.W.nsIn K mainGlobals "_law_wronged" = some (some (.ref f15)))
    (l15 : K.lookup f15 = some ⟨oc15, od15, .func (PySem.W.fnOf "_law_wronged" "_law_wronged" (defArgs st__law_wronged) (defBody st__law_wronged) (defScope st__law_wronged) .none kV15 dc15 pm15 an15 cd15 ct15), sl15⟩)
    (c15 : PySem.W.codeIn K cd15 "_law_wronged" = true)
    (k15 : PySem.W.keepIn K (.ref f15) = true)
    (a16 : PySem.W.nsIn K mainGlobals "_law_lots" = some (some (.ref f16)))
    (l16 : K.lookup f16 = some ⟨oc16, od16, .func (PySem.W.fnOf "_law_lots" "_law_lots" (defArgs st__law_lots) (defBody st__law_lots) (defScope st__law_lots) .none kV16 dc16 pm16 an16 cd16 ct16), sl16⟩)
    (c16 : PySem.W.codeIn K cd16 "_law_lots" = true)
    (k16 : PySem.W.keepIn K (.ref f16) = true)
    (a17 : PySem.W.nsIn K mainGlobals "_law_come" = some (some (.ref f17)))
    (l17 : K.lookup f17 = some ⟨oc17, od17, .func (PySem.W.fnOf "_law_come" "_law_come" (defArgs st__law_come) (defBody st__law_come) (defScope st__law_come) .none kV17 dc17 pm17 an17 cd17 ct17), sl17⟩)
    (c17 : PySem.W.codeIn K cd17 "_law_come" = true)
    (k17 : PySem.W.keepIn K (.ref f17) = true)
    (a18 : PySem.W.nsIn K mainGlobals "_law_machine" = some (some (.ref f18)))
    (l18 : K.lookup f18 = some ⟨oc18, od18, .func (PySem.W.fnOf "_law_machine" "_law_machine" (defArgs st__law_machine) (defBody st__law_machine) (defScope st__law_machine) .none kV18 dc18 pm18 an18 cd18 ct18), sl18⟩)
    (c18 : PySem.W.codeIn K cd18 "_law_machine" = true)
    (k18 : PySem.W.keepIn K (.ref f18) = true)
    (a19 : PySem.W.nsIn K mainGlobals "_law_wrong" = some (some (.ref f19)))
    (l19 : K.lookup f19 = some ⟨oc19, od19, .func (PySem.W.fnOf "_law_wrong" "_law_wrong" (defArgs st__law_wrong) (defBody st__law_wrong) (defScope st__law_wrong) .none kV19 dc19 pm19 an19 cd19 ct19), sl19⟩)
    (c19 : PySem.W.codeIn K cd19 "_law_wrong" = true)
    (k19 : PySem.W.keepIn K (.ref f19) = true)
    (a20 : PySem.W.nsIn K mainGlobals "law" = some (some (.ref f20)))
    (l20 : K.lookup f20 = some ⟨oc20, od20, .func (PySem.W.fnOf "law" "law" (defArgs st_law) (defBody st_law) (defScope st_law) .none kV20 dc20 pm20 an20 (.ref cA20) ct20), sl20⟩)
    (c20 : PySem.W.codeIn K (.ref cA20) "law" = true)
    (k20 : PySem.W.keepIn K (.ref f20) = true)
    (t20 : PySem.W.codeHdIn K cA20 pA20 = true)
    (u20 : K.lookup pA20 = none)
    (z0 : PySem.W.nsIn K mainGlobals "len" = some none)
    (z1 : PySem.W.nsIn K mainGlobals "int" = some none)
    (z2 : PySem.W.nsIn K mainGlobals "abs" = some none)
    (z3 : PySem.W.nsIn K mainGlobals "isinstance" = some none)
    (z4 : PySem.W.nsIn K mainGlobals "all" = some none)
    (z5 : PySem.W.nsIn K mainGlobals "any" = some none)
    (z6 : PySem.W.nsIn K mainGlobals "tuple" = some none)
    (z7 : PySem.W.nsIn K mainGlobals "list" = some none)
    (z8 : PySem.W.nsIn K mainGlobals "min" = some none)
    (z9 : PySem.W.nsIn K mainGlobals "max" = some none)
    (z10 : PySem.W.nsIn K mainGlobals "sum" = some none)
    (z11 : PySem.W.nsIn K mainGlobals "sorted" = some none)
    (z12 : PySem.W.nsIn K mainGlobals "range" = some none)
    (z13 : PySem.W.nsIn K mainGlobals "zip" = some none)
    (z14 : PySem.W.nsIn K mainGlobals "enumerate" = some none)
    (z15 : PySem.W.nsIn K mainGlobals "bool" = some none)
    (z16 : PySem.W.nsIn K mainGlobals "str" = some none)
    (z17 : PySem.W.nsIn K mainGlobals "dict" = some none)
    (z18 : PySem.W.nsIn K mainGlobals "super" = some none)
    (q0 : PySem.W.nsIn K mainGlobals "MOST_MANY" = some (some (.int 5 q0t)))
    (q1 : PySem.W.nsIn K mainGlobals "MOST_MEMORIES" = some (some (.int 5000 q1t)))
    (q2 : PySem.W.nsIn K mainGlobals "POWERS" = some (some (.ref q2A)))
    (q2q : K.lookup q2A = some ⟨.type "tuple", q2O, .seq #[(.int 1 q2_0t), (.int 2 q2_1t), (.int 4 q2_2t), (.int 8 q2_3t), (.int 16 q2_4t), (.int 32 q2_5t)] q2N, q2S⟩)
    (x0a : PySem.W.nsIn K mainGlobals "Refused" = some (some (.ref x0C)))
    (x0i : PySem.W.findIn K (.ref x0C) "__init__" = some (some (.ref x0fI)))
    (x0g : K.lookup x0fI = some ⟨x0oc, x0od, .func (PySem.W.ksFn "__init__" x0qual (defArgs st_Refused) (defBody st_Refused) (defScope st_Refused) .none x0kV x0doc x0pm x0an (.ref x0cda) x0ct x0cc), x0sl⟩)
    (x0h : K.lookup x0cc = some ⟨x0ocl, x0cld, .cell (some (.ref x0C)), x0csl⟩)
    (x0c : PySem.W.codeIn K (.ref x0cda) x0qual = true)
    (x0d : K.lookup x0cda = some ⟨x0ccl, x0cdd, .fields x0vs, x0ccs⟩)
    (x0v : x0vs[2]? = some (.str x0file x0tf))
    (x0p : ((P.main.file : Str) == x0file) = true)
    (x0o : ∃ nm q N bs bm sn sub ab col dd k0 k1 k2 k3 k5, K.lookup x0C = some (excClassObj nm q x0C N bs bm true sn sub ab col dd k0 k1 k2 k3 k5 "ValueError.__new__") ∧ PySem.HandSPX.refsVE bm = true)
    (x0s : PySem.W.findIn K (.ref x0C) "__setattr__" = some (some (.builtin "object.__setattr__")))
    (x0e : PySem.W.subIn K (.ref x0C) (.type "BaseException") = some true)
    (x0y : PySem.W.typeIn K (.ref x0C) = some (.type "type"))
    (x0k : PySem.W.keepIn K (.ref x0C) = true)
    (x0t : PySem.W.typeIn K (.ref x0fI) = some (.type "function"))
    (x0n : PySem.W.nsIn K cStatics "thirdparty.any" = some none)
    (x0u : PySem.W.ks_superIn K x0C x0C "__init__" = some (some (.builtin veI)))
    (x0b : PySem.W.subIn K (.ref x0C) (.type "ValueError") = some true)
    (x0m : PySem.W.mroIn K x0C (.ref x0C) = some true)
    (x0f : PySem.W.findIn K (.ref x0C) "at" = some none)
    (x0w : (P.main.scope.names.lookup ("super" : Str)).isSome = false)
    (x0G : PySem.W.findIn K (.ref x0C) "__getattribute__" = some (some (.builtin "BaseException.__getattribute__")))
    (x0H : PySem.W.findIn K (.ref x0C) "__getattr__" = some none)
    (x0D : PySem.W.hasDictIn K x0C = true)
    (x0E : PySem.W.exmOne K (.ref x0C) (.ref x0C) = some true)
    (fin : ∀ ns : List Int, ns.length ≤ 63 → ∃ s, run tbl 1000 14 "law" [.fro (ns.map .int)] [] = .ok (.v (.bl true)) s)
    (hT : True ∧ h.get? pA20 = some { cls := .none, data := .fields #[] })
    : ∃ (fd : FuncData) (cs : List (Addr × Addr)), (∀ p ∈ cs, h.get? p.2 = some { cls := .none, data := .fields #[] }) ∧ (∀ p ∈ cs, K.lookup p.2 = none) ∧ (∀ p ∈ cs, PySem.W.CodeHd h p.1 p.2) ∧ (∀ (s : Shared) (v : Value), BindsTo s fd ⟨[v], []⟩ [("script", v)]) ∧ ∀ base : Heap, K.In base → base.Ns mainGlobals mg → (∀ p ∈ cs, LamX.TabB base mg p.1 p.2) → FnOk P w K mg base (L2.CX P w) 44 fa fd ["script"] (spLaw K (cs.map (·.2))) := by
  have e := hfa.symm.trans (PySem.W.mg_of X G a20)
  cases e
  obtain ⟨_, hT20⟩ := hT
  have F0 := FunX.of (fun_mk (st := st_is_integer) l0 c0 k0)
  have B0 := (fun_mk (st := st_is_integer) l0 c0 k0).binds (ps := ["value"]) fun _ _ _ _ _ _ us hl => match us, hl with | [_], _ => rfl
  subst e1
  have F1 : FunX K "is_number" "is_number" st_is_number f1 _ := ⟨⟨oc1, od1, _, kV1, dc1, pm1, an1, cd1, ct1, sl1, rfl, l1, c1⟩, k1⟩
  have B1 : L2.Binds K (PySem.W.fnOf "is_number" "is_number" (defArgs st_is_number) (defBody st_is_number) (defScope st_is_number) (.ref dA1) kV1 dc1 pm1 an1 cd1 ct1) ["value", "most"] [] := binds_dv0 d1 rfl fun us hl => match us, hl with | [_, _], _ => ⟨_, rfl, rfl⟩
  have C1 : L2.Binds K (PySem.W.fnOf "is_number" "is_number" (defArgs st_is_number) (defBody st_is_number) (defScope st_is_number) (.ref dA1) kV1 dc1 pm1 an1 cd1 ct1) ["value", "most"] [.none] := binds_dv d1 rfl fun us hl => match us, hl with | [_], _ => ⟨_, rfl, rfl⟩
  have F2 := FunX.of (fun_mk (st := st_is_size) l2 c2 k2)
  have B2 := (fun_mk (st := st_is_size) l2 c2 k2).binds (ps := ["value", "most"]) fun _ _ _ _ _ _ us hl => match us, hl with | [_, _], _ => rfl
  have F3 := FunX.of (fun_mk (st := st_lot_at) l3 c3 k3)
  have B3 := (fun_mk (st := st_lot_at) l3 c3 k3).binds (ps := ["many", "number"]) fun _ _ _ _ _ _ us hl => match us, hl with | [_, _], _ => rfl
  have F4 := FunX.of (fun_mk (st := st_number_at) l4 c4 k4)
  have B4 := (fun_mk (st := st_number_at) l4 c4 k4).binds (ps := ["lot"]) fun _ _ _ _ _ _ us hl => match us, hl with | [_], _ => rfl
  have F5 := FunX.of (fun_mk (st := st_lots_of) l5 c5 k5)
  have B5 := (fun_mk (st := st_lots_of) l5 c5 k5).binds (ps := ["many"]) fun _ _ _ _ _ _ us hl => match us, hl with | [_], _ => rfl
  have F6 := FunX.of (fun_mk (st := st_is_memory) l6 c6 k6)
  have B6 := (fun_mk (st := st_is_memory) l6 c6 k6).binds (ps := ["many", "memories", "value"]) fun _ _ _ _ _ _ us hl => match us, hl with | [_, _, _], _ => rfl
  have F7 := FunX.of (fun_mk (st := st_is_machine) l7 c7 k7)
  have B7 := (fun_mk (st := st_is_machine) l7 c7 k7).binds (ps := ["many", "value"]) fun _ _ _ _ _ _ us hl => match us, hl with | [_, _], _ => rfl
  have F8 := FunX.of (fun_mk (st := st_run_by) l8 c8 k8)
  have B8 := (fun_mk (st := st_run_by) l8 c8 k8).binds (ps := ["machine", "lots"]) fun _ _ _ _ _ _ us hl => match us, hl with | [_, _], _ => rfl
  have F9 := FunX.of (fun_mk (st := st_memories_of) l9 c9 k9)
  have B9 := (fun_mk (st := st_memories_of) l9 c9 k9).binds (ps := ["machine"]) fun _ _ _ _ _ _ us hl => match us, hl with | [_], _ => rfl
  have F10 := FunX.of (fun_mk (st := st__law_well) l10 c10 k10)
  have B10 := (fun_mk (st := st__law_well) l10 c10 k10).binds (ps := ["script", "k"]) fun _ _ _ _ _ _ us hl => match us, hl with | [_, _], _ => rfl
  have F11 := FunX.of (fun_mk (st := st__law_dip) l11 c11 k11)
  have B11 := (fun_mk (st := st__law_dip) l11 c11 k11).binds (ps := ["well", "many"]) fun _ _ _ _ _ _ us hl => match us, hl with | [_, _], _ => rfl
  have F12 := FunX.of (fun_mk (st := st__law_one) l12 c12 k12)
  have B12 := (fun_mk (st := st__law_one) l12 c12 k12).binds (ps := ["well", "some"]) fun _ _ _ _ _ _ us hl => match us, hl with | [_, _], _ => rfl
  have F13 := FunX.of (fun_mk (st := st__law_like) l13 c13 k13)
  have B13 := (fun_mk (st := st__law_like) l13 c13 k13).binds (ps := ["told", "due"]) fun _ _ _ _ _ _ us hl => match us, hl with | [_, _], _ => rfl
  have F14 := FunX.of (fun_mk (st := st__law_heard) l14 c14 k14)
  have B14 := (fun_mk (st := st__law_heard) l14 c14 k14).binds (ps := ["work"]) fun _ _ _ _ _ _ us hl => match us, hl with | [_], _ => rfl
  have F15 := FunX.of (fun_mk (st := st__law_wronged) l15 c15 k15)
  have B15 := (fun_mk (st := st__law_wronged) l15 c15 k15).binds (ps := ["well", "value"]) fun _ _ _ _ _ _ us hl => match us, hl with | [_, _], _ => rfl
  have F16 := FunX.of (fun_mk (st := st__law_lots) l16 c16 k16)
  have B16 := (fun_mk (st := st__law_lots) l16 c16 k16).binds (ps := ["many"]) fun _ _ _ _ _ _ us hl => match us, hl with | [_], _ => rfl
  have F17 := FunX.of (fun_mk (st := st__law_come) l17 c17 k17)
  have B17 := (fun_mk (st := st__law_come) l17 c17 k17).binds (ps := ["machine"]) fun _ _ _ _ _ _ us hl => match us, hl with | [_], _ => rfl
  have F18 := FunX.of (fun_mk (st := st__law_machine) l18 c18 k18)
  have B18 := (fun_mk (st := st__law_machine) l18 c18 k18).binds (ps := ["well", "many", "memories"]) fun _ _ _ _ _ _ us hl => match us, hl with | [_, _, _], _ => rfl
  have F19 := FunX.of (fun_mk (st := st__law_wrong) l19 c19 k19)
  have B19 := (fun_mk (st := st__law_wrong) l19 c19 k19).binds (ps := ["well", "many", "machine"]) fun _ _ _ _ _ _ us hl => match us, hl with | [_, _, _], _ => rfl
  have F20 := FunX.of (fun_mk (st := st_law) l20 c20 k20)
  have B20 := (fun_mk (st := st_law) l20 c20 k20).binds (ps := ["script"]) fun _ _ _ _ _ _ us hl => match us, hl with | [_], _ => rfl
  refine ⟨PySem.W.fnOf "law" "law" (defArgs st_law) (defBody st_law) (defScope st_law) .none kV20 dc20 pm20 an20 (.ref cA20) ct20, [(cA20, pA20)], ?_, ?_, ?_, fun s v => .of_eq rfl, fun base _ _ hB => ?_⟩
  · intro p hp
    obtain rfl := List.mem_singleton.mp hp
    exact hT20
  · intro p hp
    obtain rfl := List.mem_singleton.mp hp
    exact u20
  · intro p hp
    obtain rfl := List.mem_singleton.mp hp
    exact PySem.W.codeHd_of_K X t20
  have LB20 : ∃ c P, LamX.TabB base mg c P ∧ (Value.ref cA20) = .ref c ∧ (P, ("law" : Str) ++ ".<locals>." ++ "<lambda>") ∈ (⟨K, gaOf mg, [(pA20, "law.<locals>.<lambda>")]⟩ : Glo).T ∧ ∀ p ∈ (⟨K, gaOf mg, [(pA20, "law.<locals>.<lambda>")]⟩ : Glo).T, p.1 = P → p.2 = ("law" : Str) ++ ".<locals>." ++ "<lambda>" := ⟨cA20, pA20, hB _ (List.mem_singleton.mpr rfl), rfl, by first | exact List.mem_singleton.mpr rfl | simp, fun p hp _ => by obtain rfl := List.mem_singleton.mp hp; rfl⟩
  have T : TopOk ⟨K, gaOf mg, [(pA20, "law.<locals>.<lambda>")]⟩ P w base tbl mg := by
    refine ⟨fun f => ?_, ⟨PySem.W.mg_none_of X G z12, PySem.W.mg_none_of X G z13, PySem.W.mg_none_of X G z14⟩, fun p hp => ?_, fun x c hc => ?_, fun c hc => ?_, fun x d hd => ?_⟩
    · cases f
      · exact PySem.W.mg_none_of X G z0
      · exact PySem.W.mg_none_of X G z1
      · exact PySem.W.mg_none_of X G z2
      · exact PySem.W.mg_none_of X G z3
      · exact PySem.W.mg_none_of X G z4
      · exact PySem.W.mg_none_of X G z5
      · exact PySem.W.mg_none_of X G z6
      · exact PySem.W.mg_none_of X G z7
      · exact PySem.W.mg_none_of X G z8
      · exact PySem.W.mg_none_of X G z9
      · exact PySem.W.mg_none_of X G z10
      · exact PySem.W.mg_none_of X G z11
    · simp only [tyNames, List.mem_cons, List.not_mem_nil, or_false] at hp
      rcases hp with rfl | rfl | rfl | rfl | rfl | rfl
      · exact PySem.W.mg_none_of X G z1
      · exact PySem.W.mg_none_of X G z15
      · exact PySem.W.mg_none_of X G z16
      · exact PySem.W.mg_none_of X G z6
      · exact PySem.W.mg_none_of X G z7
      · exact PySem.W.mg_none_of X G z17
    · have hc : hdn x = some c := hc
      unfold hdn at hc
      split at hc
      · rename_i e; subst e; cases hc
        exact ⟨f14, x0C, _, _, _, _, _, _, _, _, _, _, _, _, ["work", "e"], _, _, 1, _, _, _, _, _, _, _, _, _, _, _, _, PySem.W.mg_of X G a14, k14, l14, c14, B14, sc__law_heard, rfl, visB_ok (by decide +kernel), rfl, rfl, rfl, PySem.W.mg_of X G x0a, ga_of (PySem.W.mg_of X G x0a), ⟨x0G, x0H, x0e, x0D⟩, x0f, by decide, by decide, by decide, by decide, by decide, by decide, x0E, fun _ => rfl⟩
      cases hc
    · have hc : c ∈ (["Refused"] : List Str) := by simpa [tbl, xcn] using hc
      simp only [List.mem_cons, List.not_mem_nil, or_false] at hc
      rcases hc with rfl
      · refine xc_mk (C := x0C) (PySem.W.mg_of X G x0a) (ga_of (PySem.W.mg_of X G x0a)) (dV := .none) (qual := x0qual) (params := defArgs st_Refused) (body := defBody st_Refused) (scope := defScope st_Refused) (cdv := .ref x0cda) (kV := x0kV) (doc := x0doc) (pm := x0pm) (an := x0an) (ct := x0ct) ?_ x0i x0t (fun cc us hl => match us, hl with | [_, _], _ => rfl)
        exact ⟨⟨x0o, x0s, x0e, x0y, x0k⟩, ⟨_, _, _, _, x0g, _, _, _, x0h⟩, x0c, ⟨_, _, _, _, _, _, _, rfl, x0d, x0v, x0p⟩, ⟨_, rfl, rfl⟩, rfl, rfl, rfl, by decide +kernel, rfl, rfl, rfl, rfl, x0w, PySem.W.mg_none_of X G z18, x0n, x0u, x0b, x0m, x0f, ⟨_, _, _, _, _, _, _, _, _, _, fun q L f cd cc => ⟨_, rfl⟩, rfl⟩⟩
    · have hd : cns x = some d := hd
      unfold cns at hd
      split at hd
      · rename_i e; subst e; cases hd; exact con_rk (PySem.W.mg_of X G q0) (.int _ _)
      split at hd
      · rename_i e; subst e; cases hd; exact con_rk (PySem.W.mg_of X G q1) (.int _ _)
      split at hd
      · rename_i e; subst e; cases hd; exact con_rk (PySem.W.mg_of X G q2) (.ref (rk_tup q2q rfl rfl (show 6 ≤ sizeLine by rw [sizeLine_eq]; decide) (.cons (.int _ _) (.cons (.int _ _) (.cons (.int _ _) (.cons (.int _ _) (.cons (.int _ _) (.cons (.int _ _) .nil))))))))
      cases hd
  have D : ∀ p ∈ fnL, DefOk ⟨K, gaOf mg, [(pA20, "law.<locals>.<lambda>")]⟩ mg base tbl p.1 p.2 := by
    unfold fnL
    refine all_cons ?d0 <| all_cons ?d1 <| all_cons ?d2 <| all_cons ?d3 <| all_cons ?d4 <| all_cons ?d5 <| all_cons ?d6 <| all_cons ?d7 <| all_cons ?d8 <| all_cons ?d9 <| all_cons ?d10 <| all_cons ?d11 <| all_cons ?d12 <| all_cons ?d13 <| all_cons ?d15 <| all_cons ?d16 <| all_cons ?d17 <| all_cons ?d18 <| all_cons ?d19 <| all_cons ?d20 <| all_nil
    case d0 => exact ⟨_, _, _, _, _, _, false, F0, sc_is_integer, rfl, rfl, PySem.W.mg_of X G a0, ck_is_integer, binds0 (K := K) B0 rfl rfl, fun z => by cases z⟩
    case d1 => exact ⟨_, _, _, _, _, _, false, F1, sc_is_number, rfl, rfl, PySem.W.mg_of X G a1, ck_is_number, binds1 B1 C1 rfl rfl (show RelV .non .none from rfl) (fun _ _ => .non), fun z => by cases z⟩
    case d2 => exact ⟨_, _, _, _, _, _, false, F2, sc_is_size, rfl, rfl, PySem.W.mg_of X G a2, ck_is_size, binds0 (K := K) B2 rfl rfl, fun z => by cases z⟩
    case d3 => exact ⟨_, _, _, _, _, _, false, F3, sc_lot_at, rfl, rfl, PySem.W.mg_of X G a3, ck_lot_at, binds0 (K := K) B3 rfl rfl, fun z => by cases z⟩
    case d4 => exact ⟨_, _, _, _, _, _, false, F4, sc_number_at, rfl, rfl, PySem.W.mg_of X G a4, ck_number_at, binds0 (K := K) B4 rfl rfl, fun z => by cases z⟩
    case d5 => exact ⟨_, _, _, _, _, _, false, F5, sc_lots_of, rfl, rfl, PySem.W.mg_of X G a5, ck_lots_of, binds0 (K := K) B5 rfl rfl, fun z => by cases z⟩
    case d6 => exact ⟨_, _, _, _, _, _, false, F6, sc_is_memory, rfl, rfl, PySem.W.mg_of X G a6, ck_is_memory, binds0 (K := K) B6 rfl rfl, fun z => by cases z⟩
    case d7 => exact ⟨_, _, _, _, _, _, false, F7, sc_is_machine, rfl, rfl, PySem.W.mg_of X G a7, ck_is_machine, binds0 (K := K) B7 rfl rfl, fun z => by cases z⟩
    case d8 => exact ⟨_, _, _, _, _, _, false, F8, sc_run_by, rfl, rfl, PySem.W.mg_of X G a8, ck_run_by, binds0 (K := K) B8 rfl rfl, fun z => by cases z⟩
    case d9 => exact ⟨_, _, _, _, _, _, false, F9, sc_memories_of, rfl, rfl, PySem.W.mg_of X G a9, ck_memories_of, binds0 (K := K) B9 rfl rfl, fun z => by cases z⟩
    case d10 => exact ⟨_, _, _, _, _, _, false, F10, sc__law_well, rfl, rfl, PySem.W.mg_of X G a10, ck__law_well, binds0 (K := K) B10 rfl rfl, fun z => by cases z⟩
    case d11 => exact ⟨_, _, _, _, _, _, false, F11, sc__law_dip, rfl, rfl, PySem.W.mg_of X G a11, ck__law_dip, binds0 (K := K) B11 rfl rfl, fun z => by cases z⟩
    case d12 => exact ⟨_, _, _, _, _, _, false, F12, sc__law_one, rfl, rfl, PySem.W.mg_of X G a12, ck__law_one, binds0 (K := K) B12 rfl rfl, fun z => by cases z⟩
    case d13 => exact ⟨_, _, _, _, _, _, false, F13, sc__law_like, rfl, rfl, PySem.W.mg_of X G a13, ck__law_like, binds0 (K := K) B13 rfl rfl, fun z => by cases z⟩
    case d15 => exact ⟨_, _, _, _, _, _, false, F15, sc__law_wronged, rfl, rfl, PySem.W.mg_of X G a15, ck__law_wronged, binds0 (K := K) B15 rfl rfl, fun z => by cases z⟩
    case d16 => exact ⟨_, _, _, _, _, _, false, F16, sc__law_lots, rfl, rfl, PySem.W.mg_of X G a16, ck__law_lots, binds0 (K := K) B16 rfl rfl, fun z => by cases z⟩
    case d17 => exact ⟨_, _, _, _, _, _, false, F17, sc__law_come, rfl, rfl, PySem.W.mg_of X G a17, ck__law_come, binds0 (K := K) B17 rfl rfl, fun z => by cases z⟩
    case d18 => exact ⟨_, _, _, _, _, _, false, F18, sc__law_machine, rfl, rfl, PySem.W.mg_of X G a18, ck__law_machine, binds0 (K := K) B18 rfl rfl, fun z => by cases z⟩
    case d19 => exact ⟨_, _, _, _, _, _, false, F19, sc__law_wrong, rfl, rfl, PySem.W.mg_of X G a19, ck__law_wrong, binds0 (K := K) B19 rfl rfl, fun z => by cases z⟩
    case d20 => exact ⟨_, _, _, _, _, _, true, F20, sc_law, rfl, rfl, PySem.W.mg_of X G a20, ck_law, binds0 (K := K) B20 rfl rfl, fun _ => LB20⟩
  exact law_end (g := ⟨K, gaOf mg, [(pA20, "law.<locals>.<lambda>")]⟩) (tb := tbl) (wf := 1000) (d := f_law) rfl rfl (fn_step (b := true) T (fn_ok T (fun f d h => D (f, d) (look_mem h)) 13) tbl_law F20 sc_law rfl rfl ck_law (fun _ => LB20)) fin
end K61
open PySem PySem.W PyProof.Rows
set_option maxHeartbeats 0 in
theorem PySem.Challenge.cw_fairneed_k61_whole_machines_and_what_the_holds : PySem.Challenge.rw_fairneed_k61_whole_machines_and_what_the.Holds := by
  w_on; o_law; k_head; (case hw => w_witness2)
  refine LamX.walk_ofTs (l := PySem.Challenge.rw_fairneed_k61_whole_machines_and_what_the) (n := 63) (k := 44) (x := "script") (CX := fun w => L2.CX PySem.Challenge.rw_fairneed_k61_whole_machines_and_what_the.prog w) rfl (by decide) rfl ⟨rfl, by decide, by decide⟩ (fun w h Y => PySem.W.km_in_of Y) ?F (fun _ _ _ _ _ h => Fy.cx_false h)
  case F =>
    intro w mg fa h Y KX G hmg
    have tabs := PySem.W.km_tabs_of Y
    refine' Fy.lawAt_of (K61.all_mk KX G hmg ?a0 ?l0 ?c0 ?k0 ?a1 ?l1 ?c1 ?k1 ?d1 ?e1 ?a2 ?l2 ?c2 ?k2 ?a3 ?l3 ?c3 ?k3 ?a4 ?l4 ?c4 ?k4 ?a5 ?l5 ?c5 ?k5 ?a6 ?l6 ?c6 ?k6 ?a7 ?l7 ?c7 ?k7 ?a8 ?l8 ?c8 ?k8 ?a9 ?l9 ?c9 ?k9 ?a10 ?l10 ?c10 ?k10 ?a11 ?l11 ?c11 ?k11 ?a12 ?l12 ?c12 ?k12 ?a13 ?l13 ?c13 ?k13 ?a14 ?l14 ?c14 ?k14 ?a15 ?l15 ?c15 ?k15 ?a16 ?l16 ?c16 ?k16 ?a17 ?l17 ?c17 ?k17 ?a18 ?l18 ?c18 ?k18 ?a19 ?l19 ?c19 ?k19 ?a20 ?l20 ?c20 ?k20 ?t20 ?u20 ?z0 ?z1 ?z2 ?z3 ?z4 ?z5 ?z6 ?z7 ?z8 ?z9 ?z10 ?z11 ?z12 ?z13 ?z14 ?z15 ?z16 ?z17 ?z18 ?q0 ?q1 ?q2 ?q2q ?x0a ?x0i ?x0g ?x0h ?x0c ?x0d ?x0v ?x0p ?x0o ?x0s ?x0e ?x0y ?x0k ?x0t ?x0n ?x0u ?x0b ?x0m ?x0f ?x0w ?x0G ?x0H ?x0D ?x0E K61.fin ?hT)
    (case a0 => k_is)
    (case l0 => k_is)
    (case c0 => k_is)
    (case k0 => k_is)
    (case a1 => k_is)
    (case l1 => k_is)
    (case c1 => k_is)
    (case k1 => k_is)
    (case d1 => k_is)
    (case e1 => rfl)
    (case a2 => k_is)
    (case l2 => k_is)
    (case c2 => k_is)
    (case k2 => k_is)
    (case a3 => k_is)
    (case l3 => k_is)
    (case c3 => k_is)
    (case k3 => k_is)
    (case a4 => k_is)
    (case l4 => k_is)
    (case c4 => k_is)
    (case k4 => k_is)
    (case a5 => k_is)
    (case l5 => k_is)
    (case c5 => k_is)
    (case k5 => k_is)
    (case a6 => k_is)
    (case l6 => k_is)
    (case c6 => k_is)
    (case k6 => k_is)
    (case a7 => k_is)
    (case l7 => k_is)
    (case c7 => k_is)
    (case k7 => k_is)
    (case a8 => k_is)
    (case l8 => k_is)
    (case c8 => k_is)
    (case k8 => k_is)
    (case a9 => k_is)
    (case l9 => k_is)
    (case c9 => k_is)
    (case k9 => k_is)
    (case a10 => k_is)
    (case l10 => k_is)
    (case c10 => k_is)
    (case k10 => k_is)
    (case a11 => k_is)
    (case l11 => k_is)
    (case c11 => k_is)
    (case k11 => k_is)
    (case a12 => k_is)
    (case l12 => k_is)
    (case c12 => k_is)
    (case k12 => k_is)
    (case a13 => k_is)
    (case l13 => k_is)
    (case c13 => k_is)
    (case k13 => k_is)
    (case a14 => k_is)
    (case l14 => k_is)
    (case c14 => k_is)
    (case k14 => k_is)
    (case a15 => k_is)
    (case l15 => k_is)
    (case c15 => k_is)
    (case k15 => k_is)
    (case a16 => k_is)
    (case l16 => k_is)
    (case c16 => k_is)
    (case k16 => k_is)
    (case a17 => k_is)
    (case l17 => k_is)
    (case c17 => k_is)
    (case k17 => k_is)
    (case a18 => k_is)
    (case l18 => k_is)
    (case c18 => k_is)
    (case k18 => k_is)
    (case a19 => k_is)
    (case l19 => k_is)
    (case c19 => k_is)
    (case k19 => k_is)
    (case a20 => k_is)
    (case l20 => k_is)
    (case c20 => k_is)
    (case k20 => k_is)
    (case t20 => first | k_is | decide +kernel | kernel_rfl)
    (case u20 => first | k_is | decide +kernel | kernel_rfl)
    (case z0 => k_is)
    (case z1 => k_is)
    (case z2 => k_is)
    (case z3 => k_is)
    (case z4 => k_is)
    (case z5 => k_is)
    (case z6 => k_is)
    (case z7 => k_is)
    (case z8 => k_is)
    (case z9 => k_is)
    (case z10 => k_is)
    (case z11 => k_is)
    (case z12 => k_is)
    (case z13 => k_is)
    (case z14 => k_is)
    (case z15 => k_is)
    (case z16 => k_is)
    (case z17 => k_is)
    (case z18 => k_is)
    (case q0 => k_is)
    (case q1 => k_is)
    (case q2 => k_is)
    (case q2q => k_is)
    (case x0a => k_is)
    (case x0i => k_is)
    (case x0g => k_is)
    (case x0h => k_is)
    (case x0c => k_is)
    (case x0d => k_is)
    (case x0v => rfl)
    (case x0p => first | k_is | decide +kernel | kernel_rfl)
    (case x0o => exact ⟨_, _, _, _, _, _, _, _, _, _, _, _, _, _, _, by k_is, by decide +kernel⟩)
    (case x0s => k_is)
    (case x0e => k_is)
    (case x0y => k_is)
    (case x0k => k_is)
    (case x0t => k_is)
    (case x0n => k_is)
    (case x0u => first | k_is | decide +kernel | kernel_rfl)
    (case x0b => k_is)
    (case x0m => k_is)
    (case x0f => k_is)
    (case x0w => first | k_is | decide +kernel | kernel_rfl)
    (case x0G => k_is)
    (case x0H => k_is)
    (case x0D => k_is)
    (case x0E => first | k_is | decide +kernel | kernel_rfl)
    (case hT => exact ⟨trivial, tabs _ (by first | exact List.mem_singleton.mpr rfl | simp)⟩)
end
