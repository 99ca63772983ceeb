import PyProof.Rows.All
import Wide.All
import OpenK.AllK
import Wide.FinOn
import HandS.ForMost
import HandS.Zip
import HandS.IsInst
import HandS.Deep
import HandS.Wide
import HandS.TupLe
import HandS.TupAny
import HandS.Flow
import HandS.Exc
import HandS.CallSlots
import HandS.WordsExc
import HandS.Dict
import HandS.TupMul
import HandS.SortInts
import HandS.Style
import HandS.Lambda
import PyProof.Rows.SeqMore
import KE.KExcSuper
import HandS.ExcInit
import HandS.ExcField
import HandS.ExcIs
import HandS.Iter
import KE.GoesEnum
import KE.GoesZip
import KE.GoesMore
import HandS.TupSets
import KE.KNestM
import HandS.Defaults
import HandS.EndTab
import PySem.Challenge.RW_fairneed_k08_whole_situations_moves_and
section
set_option Elab.async false
set_option linter.all false
set_option maxRecDepth 100000
/-! Fy1: a small evaluator over plain data for the part of Python that the program uses. No model in sight. -/
namespace Fy
open PySem (Str PyData)

/-- plain data; lists, dicts and instances stand in a store, told by number -/
inductive D where
  | non | bl (b : Bool) | int (i : Int) | str (x : Str) | tup (xs : List D) | fro (xs : List D) | loc (n : Nat) | ty (n : String) | gl (x : Str)

mutual
def D.beq : D → D → Bool
  | .non, .non => true
  | .bl a, .bl b => a == b
  | .int a, .int b => decide (a = b)
  | .str a, .str b => decide (a = b)
  | .tup a, .tup b => D.beqs a b
  | .fro a, .fro b => D.beqs a b
  | .loc a, .loc b => decide (a = b)
  | .ty a, .ty b => decide (a = b)
  | .gl a, .gl b => decide (a = b)
  | _, _ => false
def D.beqs : List D → List D → Bool
  | [], [] => true
  | x :: xs, y :: ys => D.beq x y && D.beqs xs ys
  | _, _ => false
end
mutual
theorem D.beq_eq : ∀ a b : D, D.beq a b = true → a = b
  | .non, b, h => by cases b <;> first | rfl | simp [D.beq] at h
  | .bl a, b, h => by cases b <;> simp_all [D.beq]
  | .int a, b, h => by cases b <;> simp_all [D.beq]
  | .str a, b, h => by cases b <;> simp_all [D.beq]
  | .tup a, b, h => by
    cases b with
    | tup b => exact congrArg D.tup (D.beqs_eq a b (by simpa [D.beq] using h))
    | _ => simp [D.beq] at h
  | .fro a, b, h => by
    cases b with
    | fro b => exact congrArg D.fro (D.beqs_eq a b (by simpa [D.beq] using h))
    | _ => simp [D.beq] at h
  | .loc a, b, h => by cases b <;> simp_all [D.beq]
  | .ty a, b, h => by cases b <;> simp_all [D.beq]
  | .gl a, b, h => by cases b <;> simp_all [D.beq]
theorem D.beqs_eq : ∀ a b : List D, D.beqs a b = true → a = b
  | [], b, h => by cases b <;> first | rfl | simp [D.beqs] at h
  | x :: xs, b, h => by
    cases b with
    | nil => simp [D.beqs] at h
    | cons y ys =>
      have h' : D.beq x y = true ∧ D.beqs xs ys = true := by simpa [D.beqs] using h
      rw [D.beq_eq x y h'.1, D.beqs_eq xs ys h'.2]
end
mutual
theorem D.beq_refl : ∀ a : D, D.beq a a = true
  | .non => by simp [D.beq]
  | .bl a => by simp [D.beq]
  | .int a => by simp [D.beq]
  | .str a => by simp [D.beq]
  | .tup a => by simp [D.beq, D.beqs_refl a]
  | .fro a => by simp [D.beq, D.beqs_refl a]
  | .loc a => by simp [D.beq]
  | .ty a => by simp [D.beq]
  | .gl a => by simp [D.beq]
theorem D.beqs_refl : ∀ a : List D, D.beqs a a = true
  | [] => by simp [D.beqs]
  | x :: xs => by simp [D.beqs, D.beq_refl x, D.beqs_refl xs]
end
instance : DecidableEq D := fun a b => decidable_of_iff (D.beq a b = true) ⟨D.beq_eq a b, fun h => h ▸ D.beq_refl a⟩

/-- a key of a dict -/
abbrev Ky := Sum Int Str
/-- what stands in the store: a list, a dict, an instance of an own class -/
inductive O where
  | lst (xs : List D) | dic (t : Bool) (kvs : List (List Ky × D)) | ins (c : Str) (fs : List (Str × D))
  deriving DecidableEq
abbrev Sto := List O
abbrev Env := List (Option D)
/-- a value: data, or a list that nobody else holds -/
inductive T where
  | v (d : D) | l (xs : List D)
/-- an exception of an own class: its class, what it keeps -/
structure Xc where
  cls : Str
  val : D
inductive R (α : Type) where
  | ok (a : α) (s : Sto) | ex (x : Xc) (s : Sto) | bad
def R.bind {α β : Type} : R α → (α → Sto → R β) → R β
  | .ok a s, f => f a s
  | .ex x s, _ => .ex x s
  | .bad, _ => .bad
@[simp] theorem R.bind_ok {α β : Type} (a : α) (s : Sto) (f : α → Sto → R β) : (R.ok a s).bind f = f a s := rfl
@[simp] theorem R.bind_ex {α β : Type} (x : Xc) (s : Sto) (f : α → Sto → R β) : (R.ex x s : R α).bind f = .ex x s := rfl
@[simp] theorem R.bind_bad {α β : Type} (f : α → Sto → R β) : (R.bad : R α).bind f = .bad := rfl
def ofO {α : Type} : Option α → Sto → R α
  | some a, s => .ok a s
  | none, _ => .bad
@[simp] theorem ofO_some {α : Type} (a : α) (s : Sto) : ofO (some a) s = .ok a s := rfl
@[simp] theorem ofO_none {α : Type} (s : Sto) : ofO (none : Option α) s = .bad := rfl

def LIM : Nat := 16777216
/-- the value, kept: a list goes into the store -/
def T.keep : T → Sto → D × Sto
  | .v d, s => (d, s)
  | .l xs, s => (.loc s.length, s ++ [.lst xs])
/-- the value as data: a list that nobody else holds is locked -/
def T.froz : T → D
  | .v d => d
  | .l xs => .fro xs
@[simp] theorem froz_v (d : D) : (T.v d).froz = d := rfl
@[simp] theorem froz_l (xs : List D) : (T.l xs).froz = .fro xs := rfl
def keepR (t : T) (s : Sto) : R D := .ok (t.keep s).1 (t.keep s).2
@[simp] theorem keepR_v (d : D) (s : Sto) : keepR (.v d) s = .ok d s := rfl
@[simp] theorem keepR_l (xs : List D) (s : Sto) : keepR (.l xs) s = .ok (.loc s.length) (s ++ [.lst xs]) := rfl

def lstAt (n : Nat) (s : Sto) : Option (List D) :=
  match s[n]? with
  | some (.lst xs) => some xs
  | _ => none
/-- the items of a list -/
def lstOf : T → Sto → Option (List D)
  | .l xs, _ => some xs
  | .v (.fro xs), _ => some xs
  | .v (.loc n), s => lstAt n s
  | _, _ => none
/-- the items of a list that may be changed -/
def mlstOf : T → Sto → Option (List D)
  | .l xs, _ => some xs
  | .v (.loc n), s => (match s[n]? with | some (.lst xs) => some xs | _ => none)
  | _, _ => none
/-- the items of a list or tuple -/
def seqOf : T → Sto → Option (List D)
  | .v (.tup xs), _ => some xs
  | t, s => lstOf t s

/-! ### dicts -/
def dkA : D → Option Ky
  | .int i => some (.inl i)
  | .str x => some (.inr x)
  | _ => none
/-- the key of a dict of ints and texts -/
def dkey (t : Bool) (d : D) : Option (List Ky) := if t then none else (dkA d).map fun k => [k]
def dval (kvs : List (List Ky × D)) (k : List Ky) : Option D := (kvs.find? fun kv => decide (kv.1 = k)).map (·.2)
def dset (kvs : List (List Ky × D)) (k : List Ky) (v : D) : List (List Ky × D) :=
  if (kvs.any fun kv => decide (kv.1 = k)) = true then kvs.map (fun kv => if kv.1 = k then (kv.1, v) else kv) else kvs ++ [(k, v)]
/-- what the dict o holds at k -/
def dicAt (o k : T) (s : Sto) : Option (Option D) :=
  match o, k with
  | .v (.loc n), .v k => (match s[n]? with
    | some (.dic t kvs) => (dkey t k).map fun k => dval kvs k
    | _ => none)
  | _, _ => none
def isDic (o : T) (s : Sto) : Bool :=
  match o with
  | .v (.loc n) => (match s[n]? with | some (.dic _ _) => true | _ => false)
  | _ => false
def dicPut (o : T) (k v : D) (s : Sto) : Option Sto :=
  match o with
  | .v (.loc n) => (match s[n]? with
    | some (.dic t kvs) => (dkey t k).bind fun k => if kvs.length < LIM then some (s.set n (.dic t (dset kvs k v))) else none
    | _ => none)
  | _ => none
/-- a row of ints and texts as a key -/
def dkeys : List D → Option (List Ky)
  | [] => some []
  | d :: ds => (dkA d).bind fun k => (dkeys ds).map fun ks => k :: ks
/-- what a dict of rows holds at the row ks -/
def dicAtT (o : T) (ks : List D) (s : Sto) : Option (Option D) :=
  match o with
  | .v (.loc n) => (match s[n]? with
    | some (.dic true kvs) => (dkeys ks).map fun k => dval kvs k
    | _ => none)
  | _ => none
def dicPutT (o : T) (ks : List D) (v : D) (s : Sto) : Option Sto :=
  match o with
  | .v (.loc n) => (match s[n]? with
    | some (.dic true kvs) => (dkeys ks).bind fun k => if kvs.length < LIM then some (s.set n (.dic true (dset kvs k v))) else none
    | _ => none)
  | _ => none
/-! ### instances -/
def fget (fs : List (Str × D)) (f : Str) : Option D := fs.lookup f
def fput (f : Str) (v : D) : List (Str × D) → List (Str × D)
  | [] => [(f, v)]
  | p :: r => if p.1 = f then (f, v) :: r else p :: fput f v r
def fldAt (x : T) (f : Str) (s : Sto) : Option D :=
  match x with
  | .v (.loc n) => (match s[n]? with | some (.ins _ fs) => fget fs f | _ => none)
  | _ => none
def fldPut (c : Str) (x : T) (f : Str) (v : D) (s : Sto) : Option Sto :=
  match x with
  | .v (.loc n) => (match s[n]? with | some (.ins c' fs) => if c' = c ∧ fs.length < 1000 then some (s.set n (.ins c (fput f v fs))) else none | _ => none)
  | _ => none
def dicNew (k v : D) (s : Sto) : Option Sto := (dkey false k).map fun k => s ++ [.dic false [(k, v)]]

/-! ### truth, equality, order -/
def truth : T → Sto → Option Bool
  | .v .non, _ => some false
  | .v (.bl b), _ => some b
  | .v (.int i), _ => some (i != 0)
  | .v (.str x), _ => if x.length ≤ LIM then some ((x.length : Int) != 0) else none
  | t, s => (seqOf t s).map fun xs => !xs.isEmpty
mutual
def D.py : D → Option PyData
  | .non => some .none
  | .bl b => some (.bool b)
  | .int i => some (.int i)
  | .str x => some (.str x)
  | .tup xs => (D.pys xs).map .tuple
  | .fro xs => (D.pys xs).map .list
  | _ => none
def D.pys : List D → Option (List PyData)
  | [] => some []
  | x :: xs => (D.py x).bind fun d => (D.pys xs).map fun ds => d :: ds
end
def pyOf : T → Sto → Option PyData
  | .l xs, _ => (D.pys xs).map .list
  | .v (.loc n), s => (lstAt n s).bind fun xs => (D.pys xs).map .list
  | .v d, _ => D.py d
/-- ==, where both are flat, or both are nested data -/
def eqT (x y : T) (s : Sto) : Option Bool :=
  match x, y with
  | .v .non, .v .non => some true
  | .v (.bl a), .v (.bl b) => some (a == b)
  | .v (.int a), .v (.int b) => some (decide (a = b))
  | .v (.str a), .v (.str b) => some (decide (a = b))
  | x, y => (pyOf x s).bind fun d => (pyOf y s).bind fun e => if PySem.SeqAt.shaped d && PySem.SeqAt.shaped e then some (PyData.eqv d e) else none
def intsD : List D → Option (List Int)
  | [] => some []
  | .int i :: xs => (intsD xs).map fun is => i :: is
  | _ => none
def ordI (op : Nat) (a b : Int) : Bool :=
  match op with
  | 0 => decide (a < b)
  | 1 => decide (a ≤ b)
  | 2 => decide (b < a)
  | _ => decide (b ≤ a)
/-- rows of intsD, compared at the first place where they differ -/
def ordL (op : Nat) : List Int → List Int → Bool
  | [], [] => ordI op 0 0
  | [], _ :: _ => ordI op 0 1
  | _ :: _, [] => ordI op 1 0
  | x :: xs, y :: ys => if x = y then ordL op xs ys else ordI op x y
/-- <, <=, >, >= of two intsD, or of two tuples of intsD -/
def ordT (op : Nat) (x y : T) : Option Bool :=
  match x, y with
  | .v (.int a), .v (.int b) => some (ordI op a b)
  | .v (.tup a), .v (.tup b) => (intsD a).bind fun a => (intsD b).map fun b => ordL op a b
  | _, _ => none
def flat : D → Bool
  | .non => true
  | .bl _ => true
  | .int _ => true
  | .str _ => true
  | _ => false
/-- == of flat values -/
def eqF : D → D → Bool
  | .non, .non => true
  | .bl a, .bl b => a == b
  | .bl a, .int b => (if a then 1 else 0) == b
  | .int a, .bl b => a == (if b then 1 else 0)
  | .int a, .int b => a == b
  | .str a, .str b => a == b
  | _, _ => false
def flatT : T → Bool
  | .v d => flat d
  | .l _ => false
def datT : T → D
  | .v d => d
  | .l _ => .non
/-- x in a list or tuple: all flat, or all nested data; in a dict -/
def inT (x y : T) (s : Sto) : Option Bool :=
  match dicAt y x s with
  | some o => some o.isSome
  | none => (seqOf y s).bind fun xs =>
    if flatT x && xs.all flat then some (xs.any fun z => eqF z (datT x))
    else (pyOf x s).bind fun d => (D.pys xs).bind fun ds => if PySem.SeqAt.shaped d && PySem.SeqAt.shaped (.list ds) then some (ds.any fun z => PyData.eqv z d) else none
inductive Cop where
  | eq | ne | lt | le | gt | ge | is | isnot | inn | notin
/-- is, with None, True or False at the right -/
def isT (x y : T) : Option Bool :=
  match x, y with
  | .v d, .v .non => some (match d with | .non => true | _ => false)
  | .l _, .v .non => some false
  | .v (.bl a), .v (.bl b) => some (a == b)
  | _, _ => none
def cmpT (op : Cop) (x y : T) (s : Sto) : Option Bool :=
  match op with
  | .eq => eqT x y s
  | .ne => (eqT x y s).map (!·)
  | .lt => ordT 0 x y
  | .le => ordT 1 x y
  | .gt => ordT 2 x y
  | .ge => ordT 3 x y
  | .is => isT x y
  | .isnot => (isT x y).map (!·)
  | .inn => inT x y s
  | .notin => (inT x y s).map (!·)

/-! ### operators, items, slices -/
inductive Bop where
  | add | sub | mul | fdiv | mod | pow
/-- the sizes that are served -/
def mulOk (a b : Int) : Bool := decide (a.natAbs < 2 ^ 64) || (decide (b.natAbs < 2 ^ 64) || decide (a.natAbs.log2 + b.natAbs.log2 < 1000000))
theorem mulOk_l {a b : Int} (h : a.natAbs < 2 ^ 64) : mulOk a b = true := by unfold mulOk; rw [decide_eq_true h]; rfl
theorem mulOk_r {a b : Int} (h : b.natAbs < 2 ^ 64) : mulOk a b = true := by unfold mulOk; rw [decide_eq_true h]; simp
def divOk (b : Int) : Bool := decide (0 < b) && decide (b.natAbs.log2 < 9000)
theorem log_lt {i : Int} {k : Nat} (h : i.natAbs < 2 ^ k) (h0 : 0 < k) : i.natAbs.log2 < k := PySem.Flt.log2_lt_of h0 h
theorem mulOk_of {a b : Int} (ha : a.natAbs < 2 ^ 240) (hb : b.natAbs < 2 ^ 240) : mulOk a b = true := by
  have h1 := log_lt ha (by decide)
  have h2 := log_lt hb (by decide)
  unfold mulOk
  rw [decide_eq_true (show a.natAbs.log2 + b.natAbs.log2 < 1000000 by omega)]
  simp
theorem divOk_of {b : Int} (h : 0 < b) (hb : b.natAbs < 2 ^ 240) : divOk b = true := by
  have h2 := log_lt hb (by decide)
  unfold divOk
  rw [decide_eq_true h, decide_eq_true (by omega)]
  rfl
def binT (op : Bop) (x y : T) (s : Sto) : Option T :=
  match op, x, y with
  | .add, .v (.int a), .v (.int b) => some (.v (.int (a + b)))
  | .sub, .v (.int a), .v (.int b) => some (.v (.int (a - b)))
  | .mul, .v (.int a), .v (.int b) => if mulOk a b then some (.v (.int (a * b))) else none
  | .fdiv, .v (.int a), .v (.int b) => if divOk b then some (.v (.int (a / b))) else none
  | .mod, .v (.int a), .v (.int b) => if 0 < b then some (.v (.int (a % b))) else none
  | .mul, .v (.tup a), .v (.int b) => if 2 ≤ b ∧ b ≤ 10000 ∧ a.length ≤ 1000 ∧ a ≠ [] then some (.v (.tup (List.replicate b.toNat a).flatten)) else none
  | .mul, x, .v (.int b) => (mlstOf x s).bind fun a => if b.natAbs ≤ 100000000 ∧ a.length * b.toNat ≤ LIM then some (.l (List.replicate b.toNat a).flatten) else none
  | .pow, .v (.int a), .v (.int b) => if 0 ≤ b ∧ b ≤ 1000000 ∧ a.natAbs < 2 ^ 64 then some (.v (.int (a ^ b.toNat))) else none
  | .add, .v (.str a), .v (.str b) => if a.length + b.length ≤ LIM then some (.v (.str (a ++ b))) else none
  | .add, .v (.tup a), .v (.tup b) => if a.length + b.length ≤ LIM then some (.v (.tup (a ++ b))) else none
  | .add, x, y => (lstOf x s).bind fun a => (lstOf y s).bind fun b => if a.length + b.length ≤ LIM then some (.l (a ++ b)) else none
  | _, _, _ => none
def idxT (x y : T) (s : Sto) : Option T :=
  match dicAt x y s with
  | some o => o.map .v
  | none => match y with
    | .v (.int i) => ((seqOf x s).bind fun xs => L2.atI xs i).map .v
    | _ => none
def cutD (xs : List D) (lo hi : Option Int) : List D := (xs.drop (HT.sIx xs.length 0 lo)).take (HT.sIx xs.length xs.length hi - HT.sIx xs.length 0 lo)
def slcT (x : T) (lo hi : Option Int) (s : Sto) : Option T :=
  match x with
  | .v (.tup xs) => some (.v (.tup (cutD xs lo hi)))
  | x => (lstOf x s).map fun xs => .l (cutD xs lo hi)

/-! ### sorted(set(..)) of rows of ints -/
def rowsI : List D → Option (List (List Int))
  | [] => some []
  | .tup xs :: r => (intsD xs).bind fun i => (rowsI r).map fun is => i :: is
  | _ => none
def rowOk (d : Nat) (r : List Int) : Bool := decide (r.length = d) && r.all fun m => decide (0 ≤ m) && decide (m < 1000000000)
def dd {α : Type} [DecidableEq α] : List α → List α
  | [] => []
  | x :: r => if x ∈ r then dd r else x :: dd r
def srt (rows : List (List Int)) : List (List Int) := (dd rows).mergeSort (ordL 1)
def ssetD (xs : List D) : Option (List D) := (rowsI xs).bind fun rows =>
  if rows.length < 64 ∧ rows.all (rowOk (rows.headD [0]).length) = true ∧ 1 ≤ (rows.headD [0]).length then some ((srt rows).map fun r => .tup (r.map .int)) else none

/-! ### methods of lists -/
inductive Lm where
  | ext | pop | idx
def isLst (t : T) (s : Sto) : Option T := (lstOf t s).map fun _ => t
/-- the first place of a value in a list: all flat, or all nested data -/
def idxD (xs : List D) (y : D) : Option T :=
  if flat y && xs.all flat then (xs.findIdx? fun z => eqF z y).map fun j => .v (.int (j : Nat))
  else (D.py y).bind fun d => (D.pys xs).bind fun ds => if PySem.SeqAt.shaped d && PySem.SeqAt.shaped (.list ds) then (ds.findIdx? fun z => PyData.eqv z d).map fun j => .v (.int (j : Nat)) else none
def appT (t : T) (ds : List D) (s : Sto) : R T :=
  match t, ds with
  | .v (.loc n), [d] => (match s[n]? with
    | some (.lst xs) => if xs.length < LIM then .ok (.v .non) (s.set n (.lst (xs ++ [d]))) else .bad
    | _ => .bad)
  | _, _ => .bad
def meT (m : Lm) (t : T) (ts : List T) (s : Sto) : R T :=
  match m, t, ts with
  | .ext, .v (.loc n), [x] => (match s[n]?, mlstOf x s with
    | some (.lst xs), some ys => if xs.length + ys.length ≤ LIM then .ok (.v .non) (s.set n (.lst (xs ++ ys))) else .bad
    | _, _ => .bad)
  | .pop, .v (.loc n), [] => (match s[n]? with
    | some (.lst xs) => (match xs[xs.length - 1]? with
      | some y => .ok (.v y) (s.set n (.lst xs.dropLast))
      | none => .bad)
    | _ => .bad)
  | .idx, t, [.v y] => (match lstOf t s with
    | some xs => ofO (idxD xs y) s
    | none => .bad)
  | _, _, _ => .bad

/-! ### built-ins -/
inductive Bi where
  | len | int | abs | isinst | all | any | tuple | list | min | max | sum | sorted
def bools : List D → Option (List Bool)
  | [] => some []
  | .bl b :: xs => (bools xs).map fun bs => b :: bs
  | _ => none
/-- the built-in class of a value -/
def tyOf : T → Sto → Option String
  | .v .non, _ => some "NoneType"
  | .v (.bl _), _ => some "bool"
  | .v (.int _), _ => some "int"
  | .v (.str _), _ => some "str"
  | .v (.tup _), _ => some "tuple"
  | .v (.fro _), _ => some "list"
  | .l _, _ => some "list"
  | .v (.loc n), s => (match s[n]? with | some (.lst _) => some "list" | some (.dic _ _) => some "dict" | _ => none)
  | _, _ => none
def isSub (t c : String) : Bool := t == c || (t == "bool" && c == "int")
def kinds : List String := ["int", "bool", "str", "tuple", "list"]
def biT (f : Bi) (xs : List T) (s : Sto) : Option T :=
  match f, xs with
  | .len, [x] => (match x with
    | .v (.str z) => if z.length ≤ LIM then some (.v (.int z.length)) else none
    | x => (seqOf x s).map fun xs => .v (.int xs.length))
  | .int, [.v (.int i)] => some (.v (.int i))
  | .int, [.v (.bl b)] => some (.v (.int (if b then 1 else 0)))
  | .abs, [.v (.int i)] => some (.v (.int (if i < 0 then -i else i)))
  | .isinst, [x, .v (.ty c)] => (tyOf x s).bind fun t => if c ∈ kinds then some (.v (.bl (isSub t c))) else none
  | .all, [x] => ((lstOf x s).bind bools).map fun bs => .v (.bl (bs.all id))
  | .any, [x] => ((lstOf x s).bind bools).map fun bs => .v (.bl (bs.any id))
  | .tuple, [x] => (seqOf x s).map fun xs => .v (.tup xs)
  | .list, [x] => (seqOf x s).map fun xs => .l xs
  | .min, [.v (.int a), .v (.int b)] => some (.v (.int (if b < a then b else a)))
  | .max, [.v (.int a), .v (.int b)] => some (.v (.int (if b > a then b else a)))
  | .sum, [x] => ((lstOf x s).bind intsD).map fun is => .v (.int is.sum)
  | .sorted, [x] => ((lstOf x s).bind intsD).map fun is => .l ((is.mergeSort fun a b => decide (a ≤ b)).map .int)
  | _, _ => none

/-! ### the text -/
mutual
inductive E where
  | var (i : Nat) | int (n : Int) | bl (b : Bool) | non | str (x : Str)
  | tyn (x : Str) (T : String) | con (x : Str) (d : D)
  | bin (op : Bop) (a b : E) | neg (a : E) | cmp (op : Cop) (a b : E) | chain (op op' : Cop) (a b c : E)
  | and2 (a b : E) | or2 (a b : E) | not1 (a : E) | ite (c a b : E)
  | tup (es : Es) | lst (es : Es) | idx (a i : E) | slc (a : E) (lo hi : Eo)
  | dnew | dic1 (k v : E) | dget2 (a k e : E) | dnewT | dgetT (a : E) (k : Es) (e : E)
  | fz (e : E) | attr (e : E) (f : Str) | new (c f : Str) (es : Es) | isi (e : E) (ts : List (Str × String)) | sset (e : E)
  | call (f : Str) (es : Es) | bi (f : Bi) (es : Es) | me (m : Lm) (o : E) (es : Es) | app (o : E) (es : Es) | heard (f c : Str) (e : E) | heard2 (f c : Str) (e : E)
  | lc (own : List (Str × Nat)) (tg : Tg) (it : It) (c : Eo) (e : E)
inductive Es where
  | nil | cons (e : E) (es : Es)
inductive Eo where
  | none | some (e : E)
inductive It where
  | seq (e : E) | rng (es : Es) | zip (a b : E) | enum (a : E)
inductive Tg where
  | nm (i : Nat) | tp (ts : Tgs)
inductive Tgs where
  | nil | cons (t : Tg) (ts : Tgs)
end
mutual
inductive S where
  | asg (t : Tg) (e : E) | asgLc (i : Nat) (own : List (Str × Nat)) (tg : Tg) (it : It) (c : Eo) (e : E) | asgLcF (i : Nat) (own : List (Str × Nat)) (tg : Tg) (it : It) (c : Eo) (e : E) | par2 (i j : Nat) (a b : E) | par3 (i j l : Nat) (a b c : E) | aug (i : Nat) (op : Bop) (e : E) | put (o i e : E) | putT (o : E) (k : Es) (e : E) | sat (c : Str) (o : E) (f : Str) (e : E)
  | ite (c : E) (a b : Ss) | for_ (t : Tg) (it : It) (b : Ss) | while_ (c : E) (b : Ss)
  | raise (c : Str) (es : Es) | ret (e : E) | ret0 | expr (e : E) | brk | cont | pass
inductive Ss where
  | nil | cons (s : S) (r : Ss) | wk (f c w : Str) (iw ik : Nat) (es : Es)
end

/-! ### targets -/
mutual
def bindT : Tg → D → Env → Option Env
  | .nm i, d, ρ => some (ρ.set i (some d))
  | .tp ts, .tup xs, ρ => if xs.length = Tgs.len ts then bindTs ts xs ρ else none
  | .tp _, _, _ => none
def bindTs : Tgs → List D → Env → Option Env
  | .nil, [], ρ => some ρ
  | .cons t ts, x :: xs, ρ => (bindT t x ρ).bind fun ρ => bindTs ts xs ρ
  | _, _, _ => none
def Tgs.len : Tgs → Nat
  | .nil => 0
  | .cons _ ts => ts.len + 1
end
def wipeE (ρ : Env) : List Nat → Env
  | [] => ρ
  | v :: vs => (wipeE ρ vs).set v none

mutual
def Tg.slots : Tg → List Nat
  | .nm i => [i]
  | .tp ts => ts.slots
def Tgs.slots : Tgs → List Nat
  | .nil => []
  | .cons t ts => t.slots ++ ts.slots
end

/-! ### what is walked: the items, and the lists of the store that must stand still -/
structure Items where
  xs : List D
  src : List (Nat × List D)
def stands (src : List (Nat × List D)) (s : Sto) : Bool := src.all fun p => decide (lstAt p.1 s = some p.2)
def itemsOf (t : T) (s : Sto) : Option Items :=
  match t with
  | .v (.tup xs) => some ⟨xs, []⟩
  | .v (.fro xs) => some ⟨xs, []⟩
  | .l xs => some ⟨xs, []⟩
  | .v (.loc n) => (lstAt n s).map fun xs => ⟨xs, [(n, xs)]⟩
  | _ => none
def rangeD (lo hi : Int) : Option Items :=
  if lo.natAbs < 2 ^ 62 ∧ hi.natAbs < 2 ^ 62 then some ⟨(List.range (hi - lo).toNat).map fun i => D.int (lo + (i : Nat)), []⟩ else none
def rangeOf : List D → Option Items
  | [.int j] => rangeD 0 j
  | [.int i, .int j] => rangeD i j
  | _ => none
/-- zip of two tuples, of two lists, of a tuple and a list -/
def zipOf (a b : T) (s : Sto) : Option Items :=
  match a, b with
  | .v (.tup xs), .v (.tup ys) => some ⟨(xs.zip ys).map fun p => .tup [p.1, p.2], []⟩
  | .v (.tup xs), y => (itemsOf y s).map fun q => ⟨(xs.zip q.xs).map fun p => .tup [p.1, p.2], q.src⟩
  | _, .v (.tup _) => none
  | a, b => (itemsOf a s).bind fun p => (itemsOf b s).map fun q => ⟨(p.xs.zip q.xs).map fun p => .tup [p.1, p.2], p.src ++ q.src⟩

/-- enumerate of a list or tuple -/
def enumOf (t : T) (s : Sto) : Option Items := (itemsOf t s).map fun I => ⟨I.xs.zipIdx.map fun p => .tup [.int (p.2 : Nat), p.1], I.src⟩

/-! ### the evaluator -/
/-- f(lambda: e), where f tells what it heard -/
def heardF (c : Str) (fe : Env → Sto → R T) : Env → Sto → R T := fun ρ s => match fe ρ s with
  | .ok _ s' => .ok (.v .non) s'
  | .ex x s' => if x.cls = c then .ok (.v x.val) s' else .bad
  | .bad => .bad
/-- .. in two words for two sorts -/
def heard2F (c : Str) (fe : Env → Sto → R T) : Env → Sto → R T := fun ρ s => match fe ρ s with
  | .ok _ s' => .ok (.v (.str "none")) s'
  | .ex x s' => if x.cls = c then .ok (.v x.val) s' else .bad
  | .bad => .bad
/-- what is heard of several, each against w -/
def wkF (c w : Str) : List (Env → Sto → R T) → Env → Sto → R (List Bool)
  | [], _, s => .ok [] s
  | fe :: r, ρ, s => (heard2F c fe ρ s).bind fun t s => match t with
    | .v (.str a) => (wkF c w r ρ s).bind fun bs s => .ok (decide (a = w) :: bs) s
    | _ => .bad
abbrev CallF := Str → List D → Sto → R T
def lcLoop (f : D → Sto → R (Option D)) (src : List (Nat × List D)) : List D → List D → Sto → R T
  | [], acc, s => if stands src s then .ok (.l acc) s else .bad
  | x :: xs, acc, s => if stands src s then
      match f x s with
      | .ok (some d) s' => if acc.length < LIM then lcLoop f src xs (acc ++ [d]) s' else .bad
      | .ok none s' => lcLoop f src xs acc s'
      | _ => .bad
    else .bad
/-- a turn of a comprehension -/
def lcF (tg : Tg) (vs : List Nat) (ρ : Env) (fc : Env → Sto → R Bool) (fe : Env → Sto → R T) : D → Sto → R (Option D) := fun x s =>
  match bindT tg x (wipeE ρ vs) with
  | none => .bad
  | some ρ' => (fc ρ' s).bind fun b s => if b then (fe ρ' s).bind fun t s => (keepR t s).bind fun d s => .ok (some d) s else .ok none s
mutual
def evE (cf : CallF) : E → Env → Sto → R T
  | .var i, ρ, s => match ρ[i]? with | some (some d) => .ok (.v d) s | _ => .bad
  | .int n, _, s => .ok (.v (.int n)) s
  | .bl b, _, s => .ok (.v (.bl b)) s
  | .non, _, s => .ok (.v .non) s
  | .str x, _, s => .ok (.v (.str x)) s
  | .tyn _ t, _, s => .ok (.v (.ty t)) s
  | .con _ d, _, s => .ok (.v d) s
  | .bin op a b, ρ, s => (evE cf a ρ s).bind fun x s => (evE cf b ρ s).bind fun y s => ofO (binT op x y s) s
  | .neg a, ρ, s => (evE cf a ρ s).bind fun x s => match x with | .v (.int i) => .ok (.v (.int (-i))) s | _ => .bad
  | .cmp op a b, ρ, s => (evE cf a ρ s).bind fun x s => (evE cf b ρ s).bind fun y s => ofO ((cmpT op x y s).map fun b => .v (.bl b)) s
  | .chain op op' a b c, ρ, s => (evE cf a ρ s).bind fun x s => (evE cf b ρ s).bind fun y s =>
      match cmpT op x y s with
      | some true => (evE cf c ρ s).bind fun z s => ofO ((cmpT op' y z s).map fun b => .v (.bl b)) s
      | some false => .ok (.v (.bl false)) s
      | none => .bad
  | .and2 a b, ρ, s => (evE cf a ρ s).bind fun x s => match truth x s with | some true => evE cf b ρ s | some false => .ok x s | none => .bad
  | .or2 a b, ρ, s => (evE cf a ρ s).bind fun x s => match truth x s with | some false => evE cf b ρ s | some true => .ok x s | none => .bad
  | .not1 a, ρ, s => (evE cf a ρ s).bind fun x s => match truth x s with | some b => .ok (.v (.bl (!b))) s | none => .bad
  | .ite c a b, ρ, s => (evE cf c ρ s).bind fun x s => match truth x s with | some true => evE cf a ρ s | some false => evE cf b ρ s | none => .bad
  | .tup es, ρ, s => (evEs cf es ρ s).bind fun xs s => if xs.length ≤ LIM then .ok (.v (.tup xs)) s else .bad
  | .lst es, ρ, s => (evEs cf es ρ s).bind fun xs s => if xs.length ≤ LIM then .ok (.l xs) s else .bad
  | .idx a i, ρ, s => (evE cf a ρ s).bind fun x s => (evE cf i ρ s).bind fun y s => ofO (idxT x y s) s
  | .slc a lo hi, ρ, s => (evE cf a ρ s).bind fun x s => (evEo cf lo ρ s).bind fun lo s => (evEo cf hi ρ s).bind fun hi s => ofO (slcT x lo hi s) s
  | .dnew, _, s => .ok (.v (.loc s.length)) (s ++ [.dic false []])
  | .dic1 k v, ρ, s => (evE cf k ρ s).bind fun x s => (keepR x s).bind fun k s => (evE cf v ρ s).bind fun y s => (keepR y s).bind fun v s => match dicNew k v s with | some s' => .ok (.v (.loc s.length)) s' | none => .bad
  | .dget2 a k e, ρ, s => (evE cf a ρ s).bind fun x s => if isDic x s then (evE cf k ρ s).bind fun y s => (evE cf e ρ s).bind fun z s => (keepR z s).bind fun z s => ofO ((dicAt x y s).map fun o => .v (o.getD z)) s else .bad
  | .dnewT, _, s => .ok (.v (.loc s.length)) (s ++ [.dic true []])
  | .dgetT a k e, ρ, s => (evE cf a ρ s).bind fun x s => if isDic x s then (evEs cf k ρ s).bind fun ks s => if ks.length ≤ LIM then (evE cf e ρ s).bind fun z s => (keepR z s).bind fun z s => ofO ((dicAtT x ks s).map fun o => .v (o.getD z)) s else .bad else .bad
  | .fz e, ρ, s => (evE cf e ρ s).bind fun t s => .ok (.v t.froz) s
  | .attr e f, ρ, s => (evE cf e ρ s).bind fun x s => ofO ((fldAt x f s).map .v) s
  | .isi e ts, ρ, s => (evE cf e ρ s).bind fun x s => ofO ((tyOf x s).map fun t => .v (.bl (ts.any fun c => isSub t c.2))) s
  | .sset e, ρ, s => (evE cf e ρ s).bind fun x s => ofO (((lstOf x s).bind ssetD).map .l) s
  | .new c f es, ρ, s => (evEs cf es ρ s).bind fun xs s => (cf f (.loc s.length :: xs) (s ++ [.ins c []])).bind fun t s' => match t with | .v .non => .ok (.v (.loc s.length)) s' | _ => .bad
  | .call f es, ρ, s => (evEs cf es ρ s).bind fun xs s => cf f xs s
  | .bi f es, ρ, s => (evTs cf es ρ s).bind fun xs s => ofO (biT f xs s) s
  | .heard _ c e, ρ, s => (match evE cf e ρ s with
      | .ok _ s' => .ok (.v .non) s'
      | .ex x s' => if x.cls = c then .ok (.v x.val) s' else .bad
      | .bad => .bad)
  | .heard2 _ c e, ρ, s => (match evE cf e ρ s with
      | .ok _ s' => .ok (.v (.str "none")) s'
      | .ex x s' => if x.cls = c then .ok (.v x.val) s' else .bad
      | .bad => .bad)
  | .app o es, ρ, s => (evE cf o ρ s).bind fun t s => (ofO (isLst t s) s).bind fun t s => (evEs cf es ρ s).bind fun ds s => appT t ds s
  | .me m o es, ρ, s => (evE cf o ρ s).bind fun t s => (ofO (isLst t s) s).bind fun t s => (evTs cf es ρ s).bind fun ts s => meT m t ts s
  | .lc own tg it c e, ρ, s => (evIt cf it ρ s).bind fun I s => lcLoop (lcF tg (own.map (·.2)) ρ (evC cf c) (evE cf e)) I.src I.xs [] s
def evEs (cf : CallF) : Es → Env → Sto → R (List D)
  | .nil, _, s => .ok [] s
  | .cons e es, ρ, s => (evE cf e ρ s).bind fun t s => (keepR t s).bind fun d s => (evEs cf es ρ s).bind fun ds s => .ok (d :: ds) s
/-- arguments of a built-in: their lists are not kept -/
def evTs (cf : CallF) : Es → Env → Sto → R (List T)
  | .nil, _, s => .ok [] s
  | .cons e es, ρ, s => (evE cf e ρ s).bind fun t s => (evTs cf es ρ s).bind fun ts s => .ok (t :: ts) s
/-- a part of a slice -/
def evEo (cf : CallF) : Eo → Env → Sto → R (Option Int)
  | .none, _, s => .ok none s
  | .some e, ρ, s => (evE cf e ρ s).bind fun t s => match t with | .v (.int i) => .ok (some i) s | _ => .bad
/-- a test that may be left out -/
def evC (cf : CallF) : Eo → Env → Sto → R Bool
  | .none, _, s => .ok true s
  | .some e, ρ, s => (evE cf e ρ s).bind fun t s => ofO (truth t s) s
def evIt (cf : CallF) : It → Env → Sto → R Items
  | .seq e, ρ, s => (evE cf e ρ s).bind fun t s => ofO (itemsOf t s) s
  | .rng es, ρ, s => (evEs cf es ρ s).bind fun xs s => ofO (rangeOf xs) s
  | .zip a b, ρ, s => (evE cf a ρ s).bind fun x s => (evE cf b ρ s).bind fun y s => ofO (zipOf x y s) s
  | .enum a, ρ, s => (evE cf a ρ s).bind fun t s => ofO (enumOf t s) s
end

/-- several expressions, each by itself -/
def esL (cf : CallF) : Es → List (Env → Sto → R T)
  | .nil => []
  | .cons e es => evE cf e :: esL cf es
/-- where a statement ends -/
inductive Fl where
  | nx (ρ : Env) (s : Sto) | rt (t : T) (s : Sto) | bk (ρ : Env) (s : Sto) | ct (ρ : Env) (s : Sto) | ex (ρ : Env) (x : Xc) (s : Sto) | bad
def R.fl {α : Type} (ρ : Env) : R α → (α → Sto → Fl) → Fl
  | .ok a s, f => f a s
  | .ex x s, _ => .ex ρ x s
  | .bad, _ => .bad
@[simp] theorem R.fl_ok {α : Type} (ρ : Env) (a : α) (s : Sto) (f : α → Sto → Fl) : (R.ok a s).fl ρ f = f a s := rfl
@[simp] theorem R.fl_ex {α : Type} (ρ : Env) (x : Xc) (s : Sto) (f : α → Sto → Fl) : (R.ex x s : R α).fl ρ f = .ex ρ x s := rfl
@[simp] theorem R.fl_bad {α : Type} (ρ : Env) (f : α → Sto → Fl) : (R.bad : R α).fl ρ f = .bad := rfl
/-- what follows where it goes on -/
def Fl.then : Fl → (Env → Sto → Fl) → Fl
  | .nx ρ s, f => f ρ s
  | x, _ => x
/-- behind a turn of a loop -/
def Fl.turn : Fl → (Env → Sto → Fl) → Fl
  | .nx ρ s, f => f ρ s
  | .ct ρ s, f => f ρ s
  | .bk ρ s, _ => .nx ρ s
  | x, _ => x
def forLoop (f : D → Env → Sto → Fl) (src : List (Nat × List D)) : List D → Env → Sto → Fl
  | [], ρ, s => if stands src s then .nx ρ s else .bad
  | x :: xs, ρ, s => if stands src s then (f x ρ s).turn fun ρ s => forLoop f src xs ρ s else .bad
/-- a turn of a for -/
def forF (t : Tg) (fb : Env → Sto → Fl) : D → Env → Sto → Fl := fun x ρ s => match bindT t x ρ with | some ρ => fb ρ s | none => .bad
theorem forF_ap (t : Tg) (fb : Env → Sto → Fl) (x : D) (ρ : Env) (s : Sto) : forF t fb x ρ s = match bindT t x ρ with | some ρ => fb ρ s | none => .bad := rfl
/-- the test of a while -/
def whC (fc : Env → Sto → R T) : Env → Sto → R Bool := fun ρ s => (fc ρ s).bind fun x s => ofO (truth x s) s
def whileLoop (c : Env → Sto → R Bool) (f : Env → Sto → Fl) : Nat → Env → Sto → Fl
  | 0, _, _ => .bad
  | n + 1, ρ, s => (c ρ s).fl ρ fun b s => if b then (f ρ s).turn fun ρ s => whileLoop c f n ρ s else .nx ρ s
def putAt (o : T) (i d : D) (s : Sto) : Option Sto :=
  match dicPut o i d s with
  | some s => some s
  | none => match o, i with
  | .v (.loc n), .int k => (match s[n]? with
    | some (.lst xs) => (L2.ixN xs.length k).map fun j => s.set n (.lst (xs.set j d))
    | _ => none)
  | _, _ => none
def augT (op : Bop) (a : Int) (y : T) : Option Int :=
  match op, y with
  | .add, .v (.int b) => some (a + b)
  | .sub, .v (.int b) => some (a - b)
  | _, _ => none
mutual
def evS (cf : CallF) (wf : Nat) : S → Env → Sto → Fl
  | .asg t e, ρ, s => (evE cf e ρ s).fl ρ fun x s => (keepR x s).fl ρ fun d s => match bindT t d ρ with | some ρ => .nx ρ s | none => .bad
  | .asgLcF i own tg it c e, ρ, s => (evE cf (.lc own tg it c e) ρ s).fl ρ fun x s => .nx (ρ.set i (some x.froz)) s
  | .asgLc i own tg it c e, ρ, s => (evE cf (.lc own tg it c e) ρ s).fl ρ fun x s => (keepR x s).fl ρ fun d s => .nx (ρ.set i (some d)) s
  | .par2 i j a b, ρ, s => (evE cf a ρ s).fl ρ fun x s => (keepR x s).fl ρ fun d s => (evE cf b ρ s).fl ρ fun y s => (keepR y s).fl ρ fun e s => .nx ((ρ.set i (some d)).set j (some e)) s
  | .par3 i j l a b c, ρ, s => (evEs cf (.cons a (.cons b (.cons c .nil))) ρ s).fl ρ fun ds s => match ds with | [d, e, f] => .nx (((ρ.set i (some d)).set j (some e)).set l (some f)) s | _ => .bad
  | .aug i op e, ρ, s => match ρ[i]? with
      | some (some (.int a)) => (evE cf e ρ s).fl ρ fun y s => match augT op a y with
        | some c => .nx (ρ.set i (some (.int c))) s
        | none => .bad
      | _ => .bad
  | .put o i e, ρ, s => (evE cf e ρ s).fl ρ fun x s => (keepR x s).fl ρ fun d s => (evE cf o ρ s).fl ρ fun o s => (evE cf i ρ s).fl ρ fun y s => match y with
      | .v k => (match putAt o k d s with | some s => .nx ρ s | none => .bad)
      | _ => .bad
  | .putT o k e, ρ, s => (evE cf e ρ s).fl ρ fun x s => (keepR x s).fl ρ fun d s => (evE cf o ρ s).fl ρ fun o s => (evEs cf k ρ s).fl ρ fun ks s => if ks.length ≤ LIM then (match dicPutT o ks d s with | some s => .nx ρ s | none => .bad) else .bad
  | .sat c o f e, ρ, s => (evE cf e ρ s).fl ρ fun x s => (keepR x s).fl ρ fun d s => (evE cf o ρ s).fl ρ fun o s => match fldPut c o f d s with | some s => .nx ρ s | none => .bad
  | .ite c a b, ρ, s => (evE cf c ρ s).fl ρ fun x s => match truth x s with | some true => evSs cf wf a ρ s | some false => evSs cf wf b ρ s | none => .bad
  | .for_ t it b, ρ, s => (evIt cf it ρ s).fl ρ fun I s => forLoop (forF t (evSs cf wf b)) I.src I.xs ρ s
  | .while_ c b, ρ, s => whileLoop (whC (evE cf c)) (evSs cf wf b) wf ρ s
  | .ret e, ρ, s => (evE cf e ρ s).fl ρ fun x s => .rt x s
  | .ret0, _, s => .rt (.v .non) s
  | .raise c es, ρ, s => (evEs cf es ρ s).fl ρ fun ds s => match ds with | [d] => .ex ρ ⟨c, d⟩ s | _ => .bad
  | .expr e, ρ, s => (evE cf e ρ s).fl ρ fun _ s => .nx ρ s
  | .brk, ρ, s => .bk ρ s
  | .cont, ρ, s => .ct ρ s
  | .pass, ρ, s => .nx ρ s
def evSs (cf : CallF) (wf : Nat) : Ss → Env → Sto → Fl
  | .nil, ρ, s => .nx ρ s
  | .cons st r, ρ, s => (evS cf wf st ρ s).then fun ρ s => evSs cf wf r ρ s
  | .wk _ c w iw _ es, ρ, s => (wkF c w (esL cf es) (ρ.set iw none) s).fl (ρ.set iw none) fun bs s => .rt (.v (.bl (bs.all id))) s
end

/-! ### calls; what a call leaves behind goes -/
mutual
def D.under (n : Nat) : D → Bool
  | .loc m => decide (m < n)
  | .tup xs => D.unders n xs
  | .fro xs => D.unders n xs
  | _ => true
def D.unders (n : Nat) : List D → Bool
  | [] => true
  | x :: xs => D.under n x && D.unders n xs
end
def O.under (n : Nat) : O → Bool
  | .lst xs => D.unders n xs
  | .dic _ kvs => kvs.all fun kv => D.under n kv.2
  | .ins _ fs => fs.all fun f => D.under n f.2
/-- what stood ahead of a call stands, or leads no further -/
def keptB (n : Nat) : Sto → Sto → Bool
  | [], _ => true
  | _ :: _, [] => false
  | o :: os, u :: us => (decide (u = o) || O.under n u) && keptB n os us
def reL (f : D → Option D) : List D → Option (List D)
  | [] => some []
  | x :: xs => (f x).bind fun y => (reL f xs).map fun ys => y :: ys
/-- data as they are told behind a call: a list made in it is locked -/
def reD (n : Nat) (s : Sto) : Nat → D → Option D
  | 0, d => if D.under n d then some d else none
  | k + 1, d => if D.under n d then some d else match d with
    | .tup xs => (reL (reD n s k) xs).map .tup
    | .fro xs => (reL (reD n s k) xs).map .fro
    | .loc m => (match s[m]? with
      | some (.lst xs) => (reL (reD n s k) xs).map .fro
      | _ => none)
    | _ => none
/-- .. a list, nobody else's -/
def reT (n : Nat) (s : Sto) : T → Option T
  | .l xs => (reL (reD n s 8) xs).map .l
  | .v (.loc m) => if m < n then some (.v (.loc m)) else match s[m]? with
    | some (.lst xs) => (reL (reD n (s.set m (.dic false [])) 8) xs).map .l
    | _ => none
  | .v d => (reD n s 8 d).map .v
/-- the first n of the store are kept, if nothing leads further; s0: the store ahead of the call -/
def tidy (s0 : Sto) (t : T) (s : Sto) : R T :=
  if keptB s0.length s0 s then
    match reT s0.length s t with
    | some t' => .ok t' (s.take s0.length)
    | none => .ok t s
  else .ok t s
/-- a def: its parameters, how many names, its body -/
structure Fn where
  np : Nat
  nn : Nat
  dv : List D
  body : Ss
/-- the text: its defs, its constants -/
structure Tab where
  fn : Str → Option Fn
  cs : Str → Option D
  xc : Str → Bool
  hd : Str → Option Str
  hd2 : Str → Option Str
  mt : Str → Option Str
  nf : Str → Str → Bool
  lam : Bool
/-- .. where no lambda may be made -/
def Tab.off (tb : Tab) : Tab := { tb with lam := false }
def Tab.flag (tb : Tab) (b : Bool) : Tab := { tb with lam := b }
instance : CoeFun Tab fun _ => Str → Option Fn := ⟨Tab.fn⟩
/-- the arguments, then the last of the defaults -/
def Fn.fill (d : Fn) (xs : List D) : List D := xs ++ d.dv.drop (d.dv.length + xs.length - d.np)
def Fl.res (s0 : Sto) : Fl → R T
  | .nx _ s => tidy s0 (.v .non) s
  | .rt t s => tidy s0 t s
  | .ex _ x s => if keptB s0.length s0 s && D.under s0.length x.val then .ex x (s.take s0.length) else .ex x s
  | _ => .bad
def run (tb : Tab) (wf : Nat) : Nat → CallF
  | 0, _, _, _ => .bad
  | k + 1, f, xs, s => match tb f with
    | some d => if (d.fill xs).length = d.np then (evSs (run tb wf k) wf d.body ((d.fill xs).map some ++ List.replicate (d.nn - d.np) none) s).res s else .bad
    | none => .bad
theorem run_off (tb : Tab) (wf : Nat) : ∀ k, run tb.off wf k = run tb wf k
  | 0 => rfl
  | k + 1 => by
    funext f xs s
    simp only [run, run_off tb wf k]
    rfl
theorem run_flag (tb : Tab) (b : Bool) (wf : Nat) : ∀ k, run (tb.flag b) wf k = run tb wf k
  | 0 => rfl
  | k + 1 => by
    funext f xs s
    simp only [run, run_flag tb b wf k]
    rfl
end Fy
end
section
set_option Elab.async false
set_option linter.all false
set_option maxRecDepth 100000
/-! Fy2: how data and store lie in the abstract heap. -/
namespace Fy
open PySem PySem.Spec PyProof.Rows L2

/-- the written part; where the text's own defs and classes stand -/
structure Glo where
  K : PySem.W.Frag
  ga : Str → Addr
  T : List (Addr × Str)

/-- a list that nobody may change: locked, or of the written part -/
def SqF (K : PySem.W.Frag) (H : Hp) (a : Addr) (xs : List V) : Prop :=
  (∃ o, H a = some (.frz o (.lst xs))) ∨ ∃ (o : Obj) (its : Array Value) (n : Nat), K.lookup a = some o ∧ o.cls = .type "list" ∧ o.dict = none ∧ o.data = .seq its n ∧ its.size ≤ sizeLine ∧ Vals xs its.toList
theorem SqF.list {K : PySem.W.Frag} {H : Hp} {a : Addr} {xs : List V} (h : SqF K H a xs) : SqL K H a xs := h.elim (fun q => .inl (.inr q)) .inr
mutual
/-- d is the value v -/
inductive RD (g : Glo) (ι : List Addr) (H : Hp) : D → V → Prop
  | non : RD g ι H .non .non
  | bl (b : Bool) : RD g ι H (.bl b) (.bl b)
  | int (i : Int) : RD g ι H (.int i) (.int i)
  | str (x : Str) : RD g ι H (.str x) (.str x)
  | ty (n : String) : RD g ι H (.ty n) (.ty n)
  | gl (x : Str) : RD g ι H (.gl x) (.ref (g.ga x))
  | tup {xs : List D} {a : Addr} {vs : List V} : SqT g.K H a vs → RDs g ι H xs vs → RD g ι H (.tup xs) (.ref a)
  | fro {xs : List D} {a : Addr} {vs : List V} : SqF g.K H a vs → RDs g ι H xs vs → RD g ι H (.fro xs) (.ref a)
  | loc {n : Nat} {a : Addr} : ι[n]? = some a → RD g ι H (.loc n) (.ref a)
inductive RDs (g : Glo) (ι : List Addr) (H : Hp) : List D → List V → Prop
  | nil : RDs g ι H [] []
  | cons {x : D} {v : V} {xs : List D} {vs : List V} : RD g ι H x v → RDs g ι H xs vs → RDs g ι H (x :: xs) (v :: vs)
end

section
variable {g : Glo} {ι : List Addr} {H : Hp}
theorem RDs.length : ∀ {xs : List D} {vs : List V}, RDs g ι H xs vs → xs.length = vs.length
  | _, _, .nil => rfl
  | _, _, .cons _ t => congrArg (· + 1) t.length
theorem RDs.get : ∀ {xs : List D} {vs : List V} {i : Nat} {d : D}, RDs g ι H xs vs → xs[i]? = some d → ∃ v, vs[i]? = some v ∧ RD g ι H d v
  | _, _, i, d, .nil, h => by simp at h
  | _, _, 0, d, .cons r _, h => by simp at h; subst h; exact ⟨_, by simp, r⟩
  | _, _, i + 1, d, .cons _ t, h => by
    obtain ⟨v, e, r⟩ := t.get (i := i) (d := d) (by simpa using h)
    exact ⟨v, by simpa using e, r⟩
theorem RDs.get' : ∀ {xs : List D} {vs : List V} {i : Nat} {v : V}, RDs g ι H xs vs → vs[i]? = some v → ∃ d, xs[i]? = some d ∧ RD g ι H d v
  | _, _, i, d, .nil, h => by simp at h
  | _, _, 0, d, .cons r _, h => by simp at h; subst h; exact ⟨_, by simp, r⟩
  | _, _, i + 1, d, .cons _ t, h => by
    obtain ⟨v, e, r⟩ := t.get' (i := i) (v := d) (by simpa using h)
    exact ⟨v, by simpa using e, r⟩
theorem RDs.append : ∀ {xs ys : List D} {vs ws : List V}, RDs g ι H xs vs → RDs g ι H ys ws → RDs g ι H (xs ++ ys) (vs ++ ws)
  | _, _, _, _, .nil, s => s
  | _, _, _, _, .cons r t, s => .cons r (t.append s)
theorem RDs.take : ∀ (n : Nat) {xs : List D} {vs : List V}, RDs g ι H xs vs → RDs g ι H (xs.take n) (vs.take n)
  | 0, _, _, _ => by simp; exact .nil
  | _ + 1, _, _, .nil => by simp; exact .nil
  | n + 1, _, _, .cons r t => by simpa using RDs.cons r (t.take n)
theorem RDs.drop : ∀ (n : Nat) {xs : List D} {vs : List V}, RDs g ι H xs vs → RDs g ι H (xs.drop n) (vs.drop n)
  | 0, _, _, h => by simpa using h
  | _ + 1, _, _, .nil => by simp; exact .nil
  | n + 1, _, _, .cons r t => by simpa using t.drop n
theorem RDs.set {d : D} {v : V} (r : RD g ι H d v) : ∀ (n : Nat) {xs : List D} {vs : List V}, RDs g ι H xs vs → RDs g ι H (xs.set n d) (vs.set n v)
  | _, _, _, .nil => by simp; exact .nil
  | 0, _, _, .cons _ t => by simpa using RDs.cons r t
  | n + 1, _, _, .cons q t => by simpa using RDs.cons q (t.set r n)
end

/-- the kinds of things that the store tracks -/
def stoKind : HO → Bool
  | .lst _ => true
  | .dK _ => true
  | .dT _ => true
  | .ins _ _ _ => true
  | _ => false
/-- the pairs of a dict; c: how its keys are told -/
def RKV (g : Glo) (ι : List Addr) (H : Hp) {κ : Type} (c : κ → List Ky) (kvs : List (List Ky × D)) (vk : List (κ × V)) : Prop := Paired (fun p q => p.1 = c q.1 ∧ RD g ι H p.2 q.2) kvs vk
/-- what is asked of a class and its names -/
structure CiOk (g : Glo) (c : Str) (fs : List (Str × D)) : Prop where
  cls : Cls g.K (g.ga c)
  na : ∀ f ∈ fs, NoAttr g.K (g.ga c) f.1
/-- the attributes -/
def RF (g : Glo) (ι : List Addr) (H : Hp) (fs : List (Str × D)) (vs : List (Str × V)) : Prop := Paired (fun p q => p.1 = q.1 ∧ RD g ι H p.2 q.2) fs vs
/-- o stands at a -/
def RO (g : Glo) (ι : List Addr) (H : Hp) (a : Addr) : O → Prop
  | .lst xs => ∃ vs, H a = some (.lst vs) ∧ RDs g ι H xs vs
  | .dic false kvs => ∃ vk, H a = some (.dK vk) ∧ RKV g ι H (fun k => [k]) kvs vk
  | .dic true kvs => ∃ vk, H a = some (.dT vk) ∧ RKV g ι H id kvs vk
  | .ins c fs => ∃ dx vs, H a = some (.ins (g.ga c) dx vs) ∧ RF g ι H fs vs ∧ CiOk g c fs
/-- no table of code objects -/
def nt : HO → Bool
  | .tbl _ => false
  | _ => true
/-- nothing stands there, but a table perhaps -/
def nn (H : Hp) (b : Addr) : Prop := ∀ o, H b = some o → nt o = false
theorem nn_none {H : Hp} {b : Addr} (h : H b = none) : nn H b := fun o e => by rw [h] at e; cases e
theorem nn_no {H : Hp} {b : Addr} {o : HO} {p : Prop} (h : nn H b) (e : H b = some o) (k : nt o = true) : p := by
  have z := h o e
  rw [k] at z; cases z
theorem nt_ne {o : HO} (h : nt o = true) : ∀ ps, o ≠ .tbl ps := fun ps e => by rw [e] at h; cases h
theorem nt_or (o : HO) : nt o = true ∨ ∃ ps, o = .tbl ps := by cases o <;> first | exact .inl rfl | exact .inr ⟨_, rfl⟩
/-- the store stands in the heap at the places ι -/
structure RS (g : Glo) (ι : List Addr) (s : Sto) (H : Hp) : Prop where
  nd : ι.Nodup
  len : ι.length = s.length
  at_ : ∀ (n : Nat) (o : O), s[n]? = some o → ∃ a, ι[n]? = some a ∧ RO g ι H a o
  tb : LamX.Tabs g.T H
/-- the heap has gone on: what is not in the store stands as it stood, new places of the store are new -/
structure Ext (ι : List Addr) (H : Hp) (ι' : List Addr) (H' : Hp) : Prop where
  pre : ι <+: ι'
  keep : ∀ b o, H b = some o → b ∉ ι → nt o = true → H' b = some o
  new : ∀ b, b ∈ ι' → b ∉ ι → nn H b

section
variable {g : Glo} {ι ι' ι'' : List Addr} {H H' H'' : Hp} {s : Sto}
theorem RO.kind {a : Addr} {o : O} (h : RO g ι H a o) : ∃ u, H a = some u ∧ stoKind u = true := by
  cases o with
  | lst xs => obtain ⟨vs, e, _⟩ := h; exact ⟨_, e, rfl⟩
  | dic t kvs => cases t <;> (obtain ⟨vk, e, _⟩ := h; exact ⟨_, e, rfl⟩)
  | ins c fs => obtain ⟨dx, vs, e, _⟩ := h; exact ⟨_, e, rfl⟩
theorem RDs.of (f : ∀ {d : D} {v : V}, RD g ι H d v → RD g ι' H' d v) : ∀ {ds : List D} {vs : List V}, RDs g ι H ds vs → RDs g ι' H' ds vs
  | _, _, .nil => .nil
  | _, _, .cons r t => .cons (f r) (RDs.of f t)
theorem RKV.of {κ : Type} {c : κ → List Ky} (f : ∀ {d : D} {v : V}, RD g ι H d v → RD g ι' H' d v) : ∀ {kvs : List (List Ky × D)} {vk : List (κ × V)}, RKV g ι H c kvs vk → RKV g ι' H' c kvs vk
  | _, _, .nil => .nil
  | _, _, .cons r t => .cons ⟨r.1, f r.2⟩ (RKV.of f t)
theorem RF.of (f : ∀ {d : D} {v : V}, RD g ι H d v → RD g ι' H' d v) : ∀ {fs : List (Str × D)} {vs : List (Str × V)}, RF g ι H fs vs → RF g ι' H' fs vs
  | _, _, .nil => .nil
  | _, _, .cons r t => .cons ⟨r.1, f r.2⟩ (RF.of f t)
/-- what stands in the store stands further on -/
theorem RO.move {a : Addr} {o : O} (h : RO g ι H a o) (e : H' a = H a) (f : ∀ {d : D} {v : V}, RD g ι H d v → RD g ι' H' d v) : RO g ι' H' a o := by
  cases o with
  | lst xs => obtain ⟨vs, e1, r⟩ := h; exact ⟨vs, e.trans e1, RDs.of f r⟩
  | dic t kvs => cases t <;> (obtain ⟨vk, e1, r⟩ := h; exact ⟨vk, e.trans e1, RKV.of f r⟩)
  | ins c fs => obtain ⟨dx, vs, e1, r, k⟩ := h; exact ⟨dx, vs, e.trans e1, RF.of f r, k⟩
theorem RS.kind (h : RS g ι s H) {a : Addr} (m : a ∈ ι) : ∃ u, H a = some u ∧ stoKind u = true := by
  obtain ⟨n, hn, e⟩ := List.mem_iff_getElem.mp m
  have hs : n < s.length := by rw [← h.len]; exact hn
  obtain ⟨b, e1, r⟩ := h.at_ n s[n] (by simp [hs])
  have e2 : b = a := by
    rw [List.getElem?_eq_getElem hn, e] at e1
    exact (Option.some.inj e1).symm
  subst e2
  exact r.kind
theorem RS.apart (h : RS g ι s H) {a : Addr} {u : HO} (e : H a = some u) (k : stoKind u = false) : a ∉ ι := fun m => by
  obtain ⟨w, e1, k1⟩ := h.kind m
  rw [e] at e1; cases e1
  rw [k] at k1; cases k1
theorem Ext.refl : Ext ι H ι H := ⟨List.prefix_refl _, fun _ _ h _ _ => h, fun _ h n => absurd h n⟩
theorem Ext.trans (a : Ext ι H ι' H') (b : Ext ι' H' ι'' H'') : Ext ι H ι'' H'' where
  pre := a.pre.trans b.pre
  keep := fun c o e n h => b.keep c o (a.keep c o e n h) (fun m => nn_no (a.new c m n) e h) h
  new := fun c m n => by
    by_cases hc : c ∈ ι'
    · exact a.new c hc n
    · intro o e
      cases h : nt o with
      | false => rfl
      | true => exact nn_no (b.new c m hc) (a.keep c o e n h) h
theorem Ext.get (a : Ext ι H ι' H') {n : Nat} {b : Addr} (h : ι[n]? = some b) : ι'[n]? = some b := by
  obtain ⟨t, rfl⟩ := a.pre
  rw [List.getElem?_append_left (List.getElem?_eq_some_iff.mp h).1]
  exact h
theorem Rd.ext {a : Addr} {u : HO} (x : Ext ι H ι' H') (h : Rd H a u) (n : a ∉ ι) (hu : nt u = true) : Rd H' a u := by
  rcases h with h | ⟨o, h⟩
  · exact .inl (x.keep _ _ h n hu)
  · exact .inr ⟨o, x.keep _ _ h n rfl⟩
theorem SqT.ext {a : Addr} {vs : List V} (rs : RS g ι s H) (x : Ext ι H ι' H') (h : SqT g.K H a vs) : SqT g.K H' a vs := by
  rcases h with h | h
  · refine .inl (Rd.ext x h ?_ rfl)
    rcases h with h | ⟨o, h⟩
    · exact rs.apart h rfl
    · exact rs.apart h rfl
  · exact .inr h
mutual
/-- data lean on tuples and on places alone -/
theorem RD.imp (hn : ∀ (n : Nat) (a : Addr), ι[n]? = some a → ι'[n]? = some a) (ht : ∀ a vs, Rd H a (.tup vs) → Rd H' a (.tup vs)) (hf : ∀ a o vs, H a = some (.frz o (.lst vs)) → H' a = some (.frz o (.lst vs))) : ∀ {d : D} {v : V}, RD g ι H d v → RD g ι' H' d v
  | _, _, .non => .non
  | _, _, .bl b => .bl b
  | _, _, .int i => .int i
  | _, _, .str z => .str z
  | _, _, .ty n => .ty n
  | _, _, .gl z => .gl z
  | _, _, .tup h r => .tup (h.elim (fun q => .inl (ht _ _ q)) .inr) (RDs.imp hn ht hf r)
  | _, _, .fro h r => .fro (h.elim (fun ⟨o, q⟩ => .inl ⟨o, hf _ _ _ q⟩) .inr) (RDs.imp hn ht hf r)
  | _, _, .loc h => .loc (hn _ _ h)
theorem RDs.imp (hn : ∀ (n : Nat) (a : Addr), ι[n]? = some a → ι'[n]? = some a) (ht : ∀ a vs, Rd H a (.tup vs) → Rd H' a (.tup vs)) (hf : ∀ a o vs, H a = some (.frz o (.lst vs)) → H' a = some (.frz o (.lst vs))) : ∀ {d : List D} {v : List V}, RDs g ι H d v → RDs g ι' H' d v
  | _, _, .nil => .nil
  | _, _, .cons r t => .cons (RD.imp hn ht hf r) (RDs.imp hn ht hf t)
end
mutual
theorem RD.ext (rs : RS g ι s H) (x : Ext ι H ι' H') : ∀ {d : D} {v : V}, RD g ι H d v → RD g ι' H' d v
  | _, _, .non => .non
  | _, _, .bl b => .bl b
  | _, _, .int i => .int i
  | _, _, .str z => .str z
  | _, _, .ty n => .ty n
  | _, _, .gl z => .gl z
  | _, _, .tup h r => .tup (SqT.ext rs x h) (RDs.ext rs x r)
  | _, _, .fro h r => .fro (h.elim (fun ⟨o, q⟩ => .inl ⟨o, x.keep _ _ q (rs.apart q rfl) rfl⟩) .inr) (RDs.ext rs x r)
  | _, _, .loc h => .loc (x.get h)
theorem RDs.ext (rs : RS g ι s H) (x : Ext ι H ι' H') : ∀ {d : List D} {v : List V}, RDs g ι H d v → RDs g ι' H' d v
  | _, _, .nil => .nil
  | _, _, .cons r t => .cons (RD.ext rs x r) (RDs.ext rs x t)
end
end

/-- a value: data, or a list that stands outside of the store -/
inductive RT (g : Glo) (ι : List Addr) (H : Hp) : T → V → Prop
  | v {d : D} {v : V} : RD g ι H d v → RT g ι H (.v d) v
  | l {xs : List D} {a : Addr} {vs : List V} : H a = some (.lst vs) → a ∉ ι → RDs g ι H xs vs → RT g ι H (.l xs) (.ref a)
/-- a list outside of the store is new since H0 -/
def Fresh (H0 : Hp) (t : T) (v : V) : Prop :=
  match t with
  | .v _ => True
  | .l _ => ∃ a, v = .ref a ∧ nn H0 a
/-- the frame's names -/
structure RE (g : Glo) (ι : List Addr) (H : Hp) (ρ : Env) (σ : L2.St) : Prop where
  len : ρ.length = σ.length
  at_ : ∀ (i : Nat) (d : D), ρ[i]? = some (some d) → ∃ v, σ[i]? = some (some v) ∧ RD g ι H d v
/-- an exception -/
def RX (g : Glo) (ι : List Addr) (H : Hp) (x : Xc) (c : Value) (d : Option Addr) : Prop :=
  c = .ref (g.ga x.cls) ∧ ∃ dx v, d = some dx ∧ H dx = some (.xd [("at", v)]) ∧ RD g ι H x.val v

section
variable {g : Glo} {ι ι' ι'' : List Addr} {H H' H'' : Hp} {s : Sto} {ρ : Env} {σ : L2.St}
theorem Ext.out (x : Ext ι H ι' H') {a : Addr} {o : HO} (e : H a = some o) (n : a ∉ ι) (h : nt o = true := by rfl) : a ∉ ι' := fun m => nn_no (x.new a m n) e h
theorem RT.ext (rs : RS g ι s H) (x : Ext ι H ι' H') {t : T} {v : V} (r : RT g ι H t v) : RT g ι' H' t v := by
  cases r with
  | v r => exact .v (r.ext rs x)
  | l e n r => exact .l (x.keep _ _ e n rfl) (x.out e n) (r.ext rs x)
theorem RE.ext (rs : RS g ι s H) (x : Ext ι H ι' H') (r : RE g ι H ρ σ) : RE g ι' H' ρ σ :=
  ⟨r.len, fun i d h => let ⟨v, e, q⟩ := r.at_ i d h; ⟨v, e, q.ext rs x⟩⟩
theorem RE.set {d : D} {v : V} (r : RE g ι H ρ σ) (i : Nat) (q : RD g ι H d v) : RE g ι H (ρ.set i (some d)) (σ.set i (some v)) := by
  refine ⟨by simp [r.len], fun j e h => ?_⟩
  by_cases hj : i = j
  · subst hj
    have hi : i < ρ.length := by
      by_cases hi : i < ρ.length
      · exact hi
      · rw [List.getElem?_eq_none (by simpa using hi)] at h; cases h
    rw [List.getElem?_set_self hi] at h
    cases h
    exact ⟨v, by rw [List.getElem?_set_self (r.len ▸ hi)], q⟩
  · rw [List.getElem?_set_ne hj] at h ⊢
    exact r.at_ j e h
theorem RE.forget {i : Nat} (r : RE g ι H ρ σ) : RE g ι H (ρ.set i none) (σ.set i none) := by
  refine ⟨by simp [r.len], fun j e h => ?_⟩
  by_cases hj : i = j
  · subst hj
    by_cases hi : i < ρ.length
    · rw [List.getElem?_set_self hi] at h; cases h
    · rw [List.getElem?_eq_none (by simpa using hi)] at h; cases h
  · rw [List.getElem?_set_ne hj] at h ⊢
    exact r.at_ j e h
theorem RE.wipe (r : RE g ι H ρ σ) : ∀ vs : List Nat, RE g ι H (wipeE ρ vs) (L2.wipe σ vs)
  | [] => r
  | _ :: vs => (r.wipe vs).forget
/-- a list outside goes into the store -/
theorem keep_ok {ι0 : List Addr} {H0 : Hp} {t : T} {v : V} (rs : RS g ι s H) (x : Ext ι0 H0 ι H) (r : RT g ι H t v) (f : Fresh H0 t v) :
    ∃ ι', RS g ι' (t.keep s).2 H ∧ Ext ι0 H0 ι' H ∧ RD g ι' H (t.keep s).1 v := by
  cases r with
  | v r => exact ⟨ι, rs, x, r⟩
  | @l xs a vs e n r =>
    obtain ⟨a', ea, f⟩ := f
    cases ea
    have more : ∀ (n : Nat) (b : Addr), ι[n]? = some b → (ι ++ [a])[n]? = some b := fun n b h => by
      rw [List.getElem?_append_left (List.getElem?_eq_some_iff.mp h).1]
      exact h
    have subs : ∀ {ds vs}, RDs g ι H ds vs → RDs g (ι ++ [a]) H ds vs := fun q => q.imp more (fun _ _ h => h) fun _ _ _ h => h
    refine ⟨ι ++ [a], ⟨?_, ?_, ?_, rs.tb⟩, ⟨x.pre.trans (List.prefix_append _ _), x.keep, ?_⟩, ?_⟩
    · exact List.nodup_append.mpr ⟨rs.nd, by simp, fun b hb c hc => by
        have ec : c = a := by simpa using hc
        subst ec
        rintro rfl
        exact n hb⟩
    · simp [T.keep, rs.len]
    · intro k o h
      have h' : (s ++ [O.lst xs])[k]? = some o := h
      by_cases hk : k < s.length
      · rw [List.getElem?_append_left hk] at h'
        obtain ⟨b, e1, r1⟩ := rs.at_ k o h'
        refine ⟨b, by rw [List.getElem?_append_left (List.getElem?_eq_some_iff.mp e1).1]; exact e1, ?_⟩
        exact r1.move rfl fun q => q.imp more (fun _ _ h => h) fun _ _ _ h => h
      · rw [List.getElem?_append_right (by omega)] at h'
        have hk0 : k - s.length = 0 := by
          cases q : k - s.length with
          | zero => rfl
          | succ m => rw [q] at h'; simp at h'
        rw [hk0] at h'
        have eo : O.lst xs = o := by simpa using h'
        subst eo
        have ek : k = ι.length := by rw [rs.len]; omega
        subst ek
        exact ⟨a, by simp, vs, e, subs r⟩
    · intro b hb nb
      rcases List.mem_append.mp hb with hb | hb
      · exact x.new b hb nb
      · have eb : b = a := by simpa using hb
        subst eb
        exact f
    · exact .loc (by simp [T.keep, ← rs.len])
end
end Fy
end
section
set_option Elab.async false
set_option linter.all false
set_option maxRecDepth 100000
/-! Fy3: what it means that the evaluator tells what the text does; its glue. -/
namespace Fy
open PySem PySem.Spec PyProof.Rows L2

/-- how a result lies in the heap; H0: the heap ahead -/
structure Rl (α β : Type) where
  r : Hp → List Addr → Hp → α → β → Prop
  sh : ∀ {ι ι1 ι' : List Addr} {H H1 H' : Hp} {a : α} {b : β}, Ext ι H ι1 H1 → Ext ι1 H1 ι' H' → r H1 ι' H' a b → r H ι' H' a b

/-- a run ends so -/
def Wp {α β : Type} (g : Glo) (W : WX) (RA : Rl α β) (σ : L2.St) (ι : List Addr) (H : Hp) (m : R α) (Q : β → Hp → Prop) : Prop :=
  match m with
  | .ok a s' => ∀ ι' H' b, Ext ι H ι' H' → RS g ι' s' H' → RA.r H ι' H' a b → Q b H'
  | .ex x s' => ∀ ι' H' c d, Ext ι H ι' H' → RS g ι' s' H' → RX g ι' H' x c d → W c d σ H'
  | .bad => False

section
variable {α β γ δ : Type} {g : Glo} {W : WX} {RA : Rl α β} {RB : Rl γ δ} {σ : L2.St} {ι ι1 : List Addr} {H H1 : Hp} {Q : δ → Hp → Prop}
theorem Wp.shift {m : R γ} (h : Wp g W RB σ ι H m Q) (x : Ext ι H ι1 H1) : Wp g W RB σ ι1 H1 m Q := by
  cases m with
  | ok a s' => exact fun ι' H' b x' rs r => h ι' H' b (x.trans x') rs (RB.sh x x' r)
  | ex e s' => exact fun ι' H' c d x' rs r => h ι' H' c d (x.trans x') rs r
  | bad => exact h
theorem Wp.step {m : R α} {k : α → Sto → R γ} {N : β → Hp → Prop} (h : Wp g W RB σ ι H (m.bind k) Q)
    (hk : ∀ a s1 ι1 H1 b, Ext ι H ι1 H1 → RS g ι1 s1 H1 → RA.r H ι1 H1 a b → Wp g W RB σ ι1 H1 (k a s1) Q → N b H1) : Wp g W RA σ ι H m N := by
  cases m with
  | ok a s1 => exact fun ι1 H1 b x rs r => hk a s1 ι1 H1 b x rs r (Wp.shift (m := k a s1) h x)
  | ex e s' => exact h
  | bad => exact h
/-- .. what follows told from the start, too -/
theorem Wp.step0 {m : R α} {k : α → Sto → R γ} {N : β → Hp → Prop} (h : Wp g W RB σ ι H (m.bind k) Q)
    (hk : ∀ a s1 ι1 H1 b, m = .ok a s1 → Ext ι H ι1 H1 → RS g ι1 s1 H1 → RA.r H ι1 H1 a b → Wp g W RB σ ι H (k a s1) Q → N b H1) : Wp g W RA σ ι H m N := by
  cases m with
  | ok a s1 => exact fun ι1 H1 b x rs r => hk a s1 ι1 H1 b rfl x rs r h
  | ex e s' => exact h
  | bad => exact h
theorem Wp.ok {a : γ} {s : Sto} {b : δ} (h : Wp g W RB σ ι H (.ok a s) Q) (rs : RS g ι s H) (r : RB.r H ι H a b) : Q b H := h ι H b Ext.refl rs r
/-- an option, in the same store -/
theorem Wp.opt {o : Option γ} {s : Sto} (h : Wp g W RB σ ι H (ofO o s) Q) : ∃ a, o = some a ∧ ∀ ι' H' b, Ext ι H ι' H' → RS g ι' s H' → RB.r H ι' H' a b → Q b H' := by
  cases o with
  | some a => exact ⟨a, rfl, h⟩
  | none => exact h.elim
end

def rlT (g : Glo) : Rl T V where
  r := fun H0 ι H t v => RT g ι H t v ∧ Fresh H0 t v
  sh := fun {ι ι1 ι' H H1 H' a b} x x' ⟨r, f⟩ => ⟨r, by
    cases r with
    | v _ => trivial
    | @l xs a vs e n _ =>
      obtain ⟨a', ea, f⟩ := f
      cases ea
      refine ⟨a, rfl, fun o q => ?_⟩
      cases h : nt o with
      | false => rfl
      | true =>
        by_cases m : a ∈ ι
        · exact absurd (x'.pre.mem (x.pre.mem m)) n
        · exact nn_no f (x.keep a o q m h) h⟩
/-- kept data -/
def rlD (g : Glo) : Rl D V := ⟨fun _ ι H d v => RD g ι H d v, fun _ _ h => h⟩
def rlDs (g : Glo) : Rl (List D) (List V) := ⟨fun _ ι H d v => RDs g ι H d v, fun _ _ h => h⟩
def rlB : Rl Bool Bool := ⟨fun _ _ _ a b => a = b, fun _ _ h => h⟩
/-- arguments of a built-in -/
inductive RTs (g : Glo) (ι : List Addr) (H : Hp) : List T → List V → Prop
  | nil : RTs g ι H [] []
  | cons {t : T} {v : V} {ts : List T} {vs : List V} : RT g ι H t v → RTs g ι H ts vs → RTs g ι H (t :: ts) (v :: vs)
def rlTs (g : Glo) : Rl (List T) (List V) := ⟨fun _ ι H d v => RTs g ι H d v, fun _ _ h => h⟩

/-- the readings that the evaluator gives -/
def tE (g : Glo) (W : WX) (f : Env → Sto → R T) : TE := fun σ H Q => ∃ ι ρ s, RE g ι H ρ σ ∧ RS g ι s H ∧ Wp g W (rlT g) σ ι H (f ρ s) Q
def tT (g : Glo) (W : WX) (f : Env → Sto → R Bool) : TT := fun σ H Q => ∃ ι ρ s, RE g ι H ρ σ ∧ RS g ι s H ∧ Wp g W rlB σ ι H (f ρ s) Q
def tA (g : Glo) (W : WX) (f : Env → Sto → R (List D)) : TA := fun σ H Q => ∃ ι ρ s, RE g ι H ρ σ ∧ RS g ι s H ∧ Wp g W (rlDs g) σ ι H (f ρ s) Q
def tAT (g : Glo) (W : WX) (f : Env → Sto → R (List T)) : TA := fun σ H Q => ∃ ι ρ s, RE g ι H ρ σ ∧ RS g ι s H ∧ Wp g W (rlTs g) σ ι H (f ρ s) Q

theorem PE.imp {X : Cx} {e : Expr} {t t' : TE} (h : PE X e t) (f : ∀ σ H Q, t' σ H Q → t σ H Q) : PE X e t' := ⟨fun pins s σ H Q I w => h.run pins s σ H Q I (f _ _ _ w)⟩
theorem PT.imp {X : Cx} {e : Expr} {t t' : TT} (h : PT X e t) (f : ∀ σ H Q, t' σ H Q → t σ H Q) : PT X e t' := ⟨fun pins s σ H Q I w => h.run pins s σ H Q I (f _ _ _ w)⟩
theorem PA.imp {X : Cx} {e : List Expr} {t t' : TA} (h : PA X e t) (f : ∀ σ H Q, t' σ H Q → t σ H Q) : PA X e t' := ⟨fun pos pins s σ H Q I w => h.run pos pins s σ H Q I (f _ _ _ w)⟩
theorem PS.imp {X : Cx} {e : Stmt} {t t' : TS} (h : PS X e t) (f : ∀ D σ H, t' D σ H → t D σ H) : PS X e t' := ⟨fun pins s σ H D I w => h.run pins s σ H D I (f _ _ _ w)⟩
theorem PSs.imp {X : Cx} {e : List Stmt} {t t' : TS} (h : PSs X e t) (f : ∀ D σ H, t' D σ H → t D σ H) : PSs X e t' := ⟨fun pins s σ H D I w => h.run pins s σ H D I (f _ _ _ w)⟩
theorem PI.imp {X : Cx} {tg e : Expr} {t t' : TI} (h : PI X tg e t) (f : ∀ σ H R, t' σ H R → t σ H R) : PI X tg e t' := ⟨fun pins s σ H R I w => h.run pins s σ H R I (f _ _ _ w)⟩

section
variable {g : Glo} {W : WX} {X : Cx} {σ : L2.St} {ι : List Addr} {H : Hp} {s : Sto}

/-- ends in the state itself -/
theorem rlT.v {d : D} {v : V} {H0 : Hp} (r : RD g ι H d v) : (rlT g).r H0 ι H (.v d) v := ⟨.v r, trivial⟩

/-! ### a sequence met in the heap -/
theorem seq_ok {t : T} {v : V} {xs : List D} (rs : RS g ι s H) (r : RT g ι H t v) (e : seqOf t s = some xs) : ∃ a vs, v = .ref a ∧ (SqL g.K H a vs ∨ SqT g.K H a vs) ∧ RDs g ι H xs vs ∧
    ((∃ ys, t = .v (.tup ys)) → SqT g.K H a vs) ∧ ((∀ ys, t ≠ .v (.tup ys)) → SqL g.K H a vs) := by
  cases r with
  | @l ys a vs h n r =>
    have e' : some ys = some xs := e
    cases e'
    exact ⟨a, vs, rfl, .inl (.inl (.inl h)), r, fun ⟨_, q⟩ => (nomatch q), fun _ => .inl (.inl h)⟩
  | @v d v r =>
    cases r with
    | @tup ys a vs h r =>
      have e' : some ys = some xs := e
      cases e'
      exact ⟨a, vs, rfl, .inr h, r, fun _ => h, fun q => absurd rfl (q _)⟩
    | @fro ys a vs h r =>
      have e' : some ys = some xs := e
      cases e'
      exact ⟨a, vs, rfl, .inl h.list, r, fun ⟨_, q⟩ => (nomatch q), fun _ => h.list⟩
    | @loc n a h =>
      have e' : lstAt n s = some xs := e
      unfold lstAt at e'
      cases q : s[n]? with
      | none => rw [q] at e'; simp at e'
      | some o =>
        rw [q] at e'
        obtain ⟨b, e1, r1⟩ := rs.at_ n o q
        have eb : b = a := by rw [h] at e1; exact (Option.some.inj e1).symm
        subst eb
        cases o with
        | lst ys =>
          obtain ⟨vs, e2, r2⟩ := r1
          have e3 : some ys = some xs := e'
          cases e3
          exact ⟨b, vs, rfl, .inl (.inl (.inl e2)), r2, fun ⟨_, q⟩ => (nomatch q), fun _ => .inl (.inl e2)⟩
        | dic _ _ => cases e'
        | ins _ _ => cases e'
    | _ => simp [seqOf, lstOf] at e
theorem lst_ok {t : T} {v : V} {xs : List D} (rs : RS g ι s H) (r : RT g ι H t v) (e : lstOf t s = some xs) : ∃ a vs, v = .ref a ∧ SqL g.K H a vs ∧ RDs g ι H xs vs := by
  have e' : seqOf t s = some xs := by
    cases t with
    | l ys => exact e
    | v d => cases d with
      | tup ys => simp [lstOf] at e
      | _ => exact e
  obtain ⟨a, vs, ev, _, r2, _, hl⟩ := seq_ok rs r e'
  refine ⟨a, vs, ev, hl ?_, r2⟩
  rintro ys rfl
  simp [lstOf] at e

/-! ### truth -/
theorem tru_V {t : T} {v : V} {b : Bool} (rs : RS g ι s H) (r : RT g ι H t v) (e : truth t s = some b) : TruV g.K v H b := by
  have hs : sizeLine = LIM := sizeLine_eq
  have seqc : ∀ xs, seqOf t s = some xs → b = !xs.isEmpty → (∃ a, v = .ref a) → TruV g.K v H b := fun xs e1 e2 _ => by
    obtain ⟨a, vs, rfl, hq, r2, _⟩ := seq_ok rs r e1
    have el : xs.isEmpty = vs.isEmpty := by
      have := r2.length
      cases xs <;> cases vs <;> simp_all
    show (∃ xs, SqL g.K H a xs ∧ b = !xs.isEmpty) ∨ (∃ xs, SqT g.K H a xs ∧ b = !xs.isEmpty) ∨ ∃ kvs, H a = some (.dK kvs) ∧ b = !kvs.isEmpty
    rcases hq with hq | hq
    · exact .inl ⟨vs, hq, by rw [e2, el]⟩
    · exact .inr (.inl ⟨vs, hq, by rw [e2, el]⟩)
  cases r with
  | @l xs a vs h n r' => exact seqc xs rfl (by simpa [truth, seqOf, lstOf] using e.symm) ⟨a, rfl⟩
  | @v d v r' =>
    cases r' with
    | non => simp [truth] at e; subst e; rfl
    | bl b' => simp [truth] at e; subst e; rfl
    | int i => simp [truth] at e; subst e; rfl
    | str x =>
      have e' : (if x.length ≤ LIM then some ((x.length : Int) != 0) else none) = some b := e
      split at e'
      · rename_i hx
        exact ⟨by rw [hs]; exact hx, (Option.some.inj e').symm⟩
      · cases e'
    | ty n => simp [truth, seqOf, lstOf] at e
    | gl x => simp [truth, seqOf, lstOf] at e
    | @tup xs a vs h r2 => exact seqc xs rfl (by simpa [truth, seqOf] using e.symm) ⟨a, rfl⟩
    | @fro xs a vs h r2 => exact seqc xs rfl (by simpa [truth, seqOf, lstOf] using e.symm) ⟨a, rfl⟩
    | @loc n a h =>
      cases q : seqOf (.v (.loc n)) s with
      | none => simp [truth, q] at e
      | some xs => exact seqc xs q (by simpa [truth, q] using e.symm) ⟨a, rfl⟩
end
end Fy
end
section
set_option Elab.async false
set_option linter.all false
set_option maxRecDepth 100000
set_option maxHeartbeats 1000000
/-! Fy4: operators, comparisons, items, slices, built-ins, by values. -/
namespace Fy
open PySem PySem.Spec PyProof.Rows L2

section
variable {g : Glo} {ι : List Addr} {H : Hp} {s : Sto}
theorem RS.free (rs : RS g ι s H) {p : Addr} (h : H p = none) : p ∉ ι := fun m => by
  obtain ⟨u, e, _⟩ := rs.kind m
  rw [h] at e; cases e
theorem Ext.upd {p : Addr} {o : HO} (h : H p = none) : Ext ι H ι (upd H p o) :=
  ⟨List.prefix_refl _, fun b u e _ _ => by rw [upd_ne (ne_of_none e h)]; exact e, fun _ m n => absurd m n⟩
theorem RS.ext {H' : Hp} (rs : RS g ι s H) (x : Ext ι H ι H') (k : ∀ a, a ∈ ι → H' a = H a) (t : LamX.Tabs g.T H') : RS g ι s H' := by
  refine ⟨rs.nd, rs.len, fun n o e => ?_, t⟩
  obtain ⟨a, ea, r⟩ := rs.at_ n o e
  have ka := k a (List.mem_of_getElem? ea)
  refine ⟨a, ea, ?_⟩
  exact r.move ka fun q => q.ext rs x
theorem RS.upd {p : Addr} {o : HO} (rs : RS g ι s H) (h : H p = none) : RS g ι s (upd H p o) :=
  rs.ext (Ext.upd h) (fun a m => upd_ne fun e => rs.free h (e ▸ m)) (rs.tb.ext fun b u e => by rw [upd_ne (ne_of_none e h)]; exact e)
/-- a list written anew: the tables stand -/
theorem tabs_set {T : List (Addr × Str)} {a : Addr} {vs ws : List V} (h : H a = some (.lst vs)) (t : LamX.Tabs T H) : LamX.Tabs T (L2.upd H a (.lst ws)) := fun p hp => by
  obtain ⟨ps, h1, h2, h3⟩ := t p hp
  have ne : ∀ {b : Addr} {u : HO}, H b = some u → (∀ xs, u ≠ .lst xs) → b ≠ a := fun {b u} e k q => by
    subst q
    rw [h] at e
    exact k vs (Option.some.inj e).symm
  refine ⟨ps, by rw [upd_ne (ne h1 fun _ z => by cases z)]; exact h1, h2, fun pos cv hc => ?_⟩
  obtain ⟨c, e1, e2⟩ := h3 pos cv hc
  exact ⟨c, e1, by rw [upd_ne (ne e2 fun _ z => by unfold LamX.CodeO at z; cases z)]; exact e2⟩
/-- a new list -/
theorem newL {xs : List D} {vs : List V} {p : Addr} (rs : RS g ι s H) (h : H p = none) (r : RDs g ι H xs vs) : (rlT g).r H ι (upd H p (.lst vs)) (.l xs) (.ref p) :=
  ⟨.l upd_same (rs.free h) (r.ext rs (Ext.upd h)), p, rfl, nn_none h⟩
theorem newT {xs : List D} {vs : List V} {p : Addr} {H0 : Hp} (rs : RS g ι s H) (h : H p = none) (r : RDs g ι H xs vs) : (rlT g).r H0 ι (upd H p (.tup vs)) (.v (.tup xs)) (.ref p) :=
  ⟨.v (.tup (.inl (.inl upd_same)) (r.ext rs (Ext.upd h))), trivial⟩

/-- what an operation on values asks: the evaluator's answer and what follows from it -/
def Ans (g : Glo) (ι : List Addr) (s : Sto) (H : Hp) (o : Option T) (Q : VK) : Prop :=
  ∃ t, o = some t ∧ ∀ ι' H' v, Ext ι H ι' H' → RS g ι' s H' → (rlT g).r H ι' H' t v → Q v H'
theorem Ans.same {t : T} {v : V} {Q : VK} {o : Option T} (h : Ans g ι s H o Q) (e : o = some t) (rs : RS g ι s H) (r : (rlT g).r H ι H t v) : Q v H := by
  obtain ⟨t', e', q⟩ := h
  rw [e] at e'; cases e'
  exact q ι H v Ext.refl rs r
theorem Ans.new {t : T} {v : V} {Q : VK} {o : Option T} {p : Addr} {u : HO} (h : Ans g ι s H o Q) (e : o = some t) (rs : RS g ι s H) (hp : H p = none) (r : (rlT g).r H ι (L2.upd H p u) t v) : Q v (L2.upd H p u) := by
  obtain ⟨t', e', q⟩ := h
  rw [e] at e'; cases e'
  exact q ι _ v (Ext.upd hp) (rs.upd hp) r
def rO2 (g : Glo) (f : T → T → Sto → Option T) : R2 := fun x y H Q => ∃ ι s tx ty, RS g ι s H ∧ RT g ι H tx x ∧ RT g ι H ty y ∧ Ans g ι s H (f tx ty s) Q

theorem RD.int_ {i : Int} {v : V} (r : RD g ι H (.int i) v) : v = .int i := by cases r; rfl
theorem RT.int_ {i : Int} {v : V} (r : RT g ι H (.v (.int i)) v) : v = .int i := by cases r with | v r => exact r.int_
theorem RT.bl_ {i : Bool} {v : V} (r : RT g ι H (.v (.bl i)) v) : v = .bl i := by cases r with | v r => cases r; rfl
theorem RT.str_ {i : Str} {v : V} (r : RT g ι H (.v (.str i)) v) : v = .str i := by cases r with | v r => cases r; rfl
theorem RT.non_ {v : V} (r : RT g ι H (.v .non) v) : v = .non := by cases r with | v r => cases r; rfl
theorem RT.ty_ {n : String} {v : V} (r : RT g ι H (.v (.ty n)) v) : v = .ty n := by cases r with | v r => cases r; rfl
theorem RT.tup_ {xs : List D} {v : V} (r : RT g ι H (.v (.tup xs)) v) : ∃ a vs, v = .ref a ∧ SqT g.K H a vs ∧ RDs g ι H xs vs := by
  cases r with | v r => cases r with | tup h r => exact ⟨_, _, rfl, h, r⟩
theorem mlst_ok {t : T} {v : V} {xs : List D} (rs : RS g ι s H) (r : RT g ι H t v) (e : mlstOf t s = some xs) : ∃ a vs, v = .ref a ∧ H a = some (.lst vs) ∧ RDs g ι H xs vs := by
  cases r with
  | @l ys a vs h n r =>
    have e' : some ys = some xs := e
    cases e'
    exact ⟨a, vs, rfl, h, r⟩
  | @v d v r =>
    cases r with
    | @loc n a h =>
      cases q : s[n]? with
      | none => simp [mlstOf, q] at e
      | some o =>
        obtain ⟨b, e1, r1⟩ := rs.at_ n o q
        have eb : b = a := by rw [h] at e1; exact (Option.some.inj e1).symm
        subst eb
        cases o with
        | lst ys =>
          obtain ⟨vs, e2, r2⟩ := r1
          have e3 : ys = xs := by simpa [mlstOf, q] using e
          subst e3
          exact ⟨b, vs, rfl, e2, r2⟩
        | dic _ _ => simp [mlstOf, q] at e
        | ins _ _ => simp [mlstOf, q] at e
    | _ => simp [mlstOf] at e

/-! ### a tuple, so many times -/
def rRepTW (K : PySem.W.Frag) : R2 := fun x y H Q => ∃ l k xs, x = .ref l ∧ y = .int k ∧ SqT K H l xs ∧ xs ≠ [] ∧ 2 ≤ k ∧ k ≤ 10000 ∧ xs.length ≤ 1000 ∧ ∀ p, H p = none → Q (.ref p) (L2.upd H p (.tup (List.replicate k.toNat xs).flatten))
theorem rep_len {α : Type} (n : Nat) (xs : List α) : (List.replicate n xs).flatten.length = n * xs.length := by
  induction n with
  | zero => simp
  | succ n ih => rw [List.replicate_succ, List.flatten_cons, List.length_append, ih, Nat.succ_mul]; omega
theorem op_repTW {X : Cx} : OpR X (binaryOp .Mult) (rRepTW X.K) := by
  intro pins s σ H x y v u Q I rx ry ⟨l, k, xs, ex, ey, hT, hne, h1, h2, hz, q⟩
  subst ex; subst ey
  cases rx
  obtain ⟨tk, rfl⟩ := ry
  obtain ⟨its, r, ⟨⟨cls, dct, dt, slo⟩, ho, hc, m, hd⟩, hs⟩ := I.tuple hT
  simp only at hc hd
  subst hc hd
  have hle : its.length = xs.length := r.length.symm
  have hpos : 0 < xs.length := List.length_pos_iff.mpr hne
  have hi : its.toArray.isEmpty = false := by
    cases its with
    | nil => rw [← hle] at hpos; exact absurd hpos (by decide)
    | cons a b => rfl
  have hsz : its.toArray.size = xs.length := by rw [List.size_toArray, hle]
  have hb : ((xs.length : Nat) : Int) * k ≤ 10000000 := by
    have := Int.mul_le_mul (show ((xs.length : Nat) : Int) ≤ 1000 by omega) h2 (by omega) (by omega)
    omega
  have hn : k.toNat * xs.length ≤ 10000000 := by
    have := Nat.mul_le_mul (show k.toNat ≤ 10000 by omega) hz
    omega
  have line : sizeLine = 16777216 := sizeLine_eq
  have hfl : (List.replicate k.toNat its).flatten.length ≤ sizeLine := by rw [rep_len, hle, line]; omega
  have g1 : (decide (k < -(2 ^ 63)) || decide (k ≥ 2 ^ 63)) = false := by
    rw [decide_eq_false (show ¬ k < -(2 ^ 63) by omega), decide_eq_false (show ¬ k ≥ 2 ^ 63 by omega)]; rfl
  have g2 : (its.toArray.isEmpty || k == 1) = false := by rw [hi, Bool.false_or]; exact beq_eq_false_iff_ne.mpr (by omega)
  have g3 : (decide (k ≤ 0) || its.toArray.isEmpty) = false := by rw [hi, Bool.or_false]; exact decide_eq_false (by omega)
  have g5 : Builtin.Tuple.tupleTooMany (((its.toArray.size : Nat) : Int) * k) = false := by
    unfold Builtin.Tuple.tupleTooMany
    rw [hsz]
    exact decide_eq_false (by rw [line]; omega)
  have big : (List.foldl (fun x1 x2 => x1 ++ x2) #[] (List.replicate k.toNat its.toArray)).size ≤ sizeLine := by rw [size_rep]; simpa using hfl
  have mulIs := tuple_mulW l its.toArray m dct slo k tk g1 g2 g3 (by rw [hsz]; omega) g5 big
  refine wpAny_binaryOp_repeat_ref (T := "tuple") (U := "int") (by decide) ⟨_, ho, rfl⟩ (fun s' => typeIs_int s' k tk) noFill_tuple_mul F.fills_int_mul F.slot_int_rmul repeat_tuple F.slot_int_index.lookup ?_
  refine call_meets F.slot_int_rmul (typeIs_int s k tk) F.entry_int_rmul (F.args_int_rmul_2 _ _) (int_rmul_tuple k tk l its.toArray m dct slo) ⟨ho, rfl, ⟨_, ho, rfl⟩,
    call_meets F.slot_tuple_mul ⟨_, ho, rfl⟩ F.entry_tuple_mul (F.args_tuple_mul_2 _ _) mulIs ⟨ho, ?_⟩⟩
  rw [size_rep]
  have new : L2.ObjOk X.prog X.w (L2.upd H s.heap.objs.size (.tup (List.replicate k.toNat xs).flatten)) (s.heap.push { cls := Value.type "tuple", data := Data.seq (List.replicate k.toNat its).flatten.toArray }) s.heap.objs.size (.tup (List.replicate k.toNat xs).flatten) :=
    ⟨by rw [rep_len, line]; omega, _, r.rep k.toNat, IsTup.new _ _⟩
  exact ⟨.ref s.heap.objs.size, _, I.laid (t' := s.toks) (fun b ob e => Heap.get?_push_of_some _ e) (Nat.le_refl _) new, rfl, q _ (I.hok.fresh (Nat.le_refl _))⟩

/-! ### lists joined, locked ones among them -/
def rCatF (K : PySem.W.Frag) : R2 := fun x y H Q => ∃ p r us ws, x = .ref p ∧ y = .ref r ∧ SqL K H p us ∧ SqL K H r ws ∧ us.length + ws.length ≤ sizeLine ∧ ∀ z, H z = none → Q (.ref z) (L2.upd H z (.lst (us ++ ws)))
theorem op_catF {X : Cx} : OpR X (binaryOp .Add) (rCatF X.K) := by
  intro pins s σ H x y v u Q I rx ry ⟨p, r, us, ws, ex, ey, h1, h2, hz, q⟩
  subst ex; subst ey
  cases rx; cases ry
  obtain ⟨its, d1, ⟨⟨c1, b1, a1, l1⟩, n1, g1, k1, m1, t1⟩, z1⟩ := I.list h1
  obtain ⟨jts, d2, ⟨⟨c2, b2, a2, l2⟩, n2, g2, k2, m2, t2⟩, z2⟩ := I.list h2
  simp only at k1 m1 t1 k2 m2 t2
  subst k1 m1 t1 k2 m2 t2
  have w1 := d1.length
  have w2 := d2.length
  have joined : its.toArray ++ jts.toArray = (its ++ jts).toArray := by simp
  have both : its.toArray.size + jts.toArray.size ≤ sizeLine := by rw [List.size_toArray, List.size_toArray]; omega
  refine concat_meets ⟨_, g1, rfl⟩ ⟨_, g2, rfl⟩ noFill_list_add seq_list_add PySem.F.slot_list_add PySem.F.entry_list_add (PySem.F.args_list_add_2 _ _)
    (PyProof.Rows.list_addW p r its.toArray jts.toArray n1 n2 none none l1 l2 both) ⟨g1, g2, ?_⟩
  rw [joined]
  exact ⟨.ref s.heap.objs.size, _, I.lnew (t' := s.toks) (d1.append d2) (by simp; omega), rfl, q _ I.fresh⟩
/-! ### operators -/
def opOf : Bop → Operator
  | .add => .Add
  | .sub => .Sub
  | .mul => .Mult
  | .fdiv => .FloorDiv
  | .mod => .Mod
  | .pow => .Pow
variable {X : Cx}
theorem bin_ok (hK : X.K = g.K) (op : Bop) : OpR X (binaryOp (opOf op)) (rO2 g (binT op)) := by
  intro pins sh σ H x y v u Q I rx ry h
  obtain ⟨ι, s, tx, ty, rs, r1, r2, an⟩ := h
  have hs : sizeLine = LIM := sizeLine_eq
  obtain ⟨t, e, q⟩ := id an
  -- two ints
  have ints2 : ∀ (a b c : Int), tx = .v (.int a) → ty = .v (.int b) → binT op tx ty s = some (.v (.int c)) → (Q (.int c) H → x = .int a → y = .int b → wpAny (model X.prog X.w) X.A (binaryOp (opOf op) v u) (EP X pins σ Q) X.xe sh) →
      wpAny (model X.prog X.w) X.A (binaryOp (opOf op) v u) (EP X pins σ Q) X.xe sh := fun a b c ea eb ec k => by
    subst ea eb
    exact k (an.same ec rs (rlT.v (.int c))) r1.int_ r2.int_
  unfold binT at e
  split at e
  · cases e
    exact ints2 _ _ _ rfl rfl rfl fun q ex ey => op_add pins sh σ H x y v u Q I rx ry ⟨_, _, ex, ey, q⟩
  · cases e
    exact ints2 _ _ _ rfl rfl rfl fun q ex ey => op_sub pins sh σ H x y v u Q I rx ry ⟨_, _, ex, ey, q⟩
  · split at e
    · rename_i hc
      cases e
      have hc' := hc
      unfold mulOk at hc'
      simp only [Bool.or_eq_true, decide_eq_true_eq] at hc'
      rcases hc' with h | h | h
      · exact ints2 _ _ _ rfl rfl (by simp [binT, hc]) fun q ex ey => op_mul pins sh σ H x y v u Q I rx ry ⟨_, _, ex, ey, .inl (by omega), q⟩
      · exact ints2 _ _ _ rfl rfl (by simp [binT, hc]) fun q ex ey => op_mul pins sh σ H x y v u Q I rx ry ⟨_, _, ex, ey, .inr (by omega), q⟩
      · exact ints2 _ _ _ rfl rfl (by simp [binT, hc]) fun q ex ey => op_mulW pins sh σ H x y v u Q I rx ry ⟨_, _, ex, ey, by simpa [CMulW] using h, q⟩
    · cases e
  · split at e
    · rename_i hc
      cases e
      exact ints2 _ _ _ rfl rfl (by simp [binT, hc]) fun q ex ey => op_fdivW pins sh σ H x y v u Q I rx ry ⟨_, _, ex, ey, by unfold divOk at hc; simpa [CDivW] using hc, q⟩
    · cases e
  · split at e
    · rename_i hc
      cases e
      exact ints2 _ _ _ rfl rfl (by simp [binT, hc]) fun q ex ey => op_mod pins sh σ H x y v u Q I rx ry ⟨_, _, ex, ey, hc, q⟩
    · cases e
  · split at e
    · rename_i a b hc
      cases e
      obtain ⟨h1, h2, h3, h4⟩ := hc
      obtain ⟨p, vs, rfl, hq, dq⟩ := r1.tup_
      have l1 := dq.length
      cases r2.int_
      have rep : ∀ n : Nat, RDs g ι H (List.replicate n a).flatten (List.replicate n vs).flatten := fun n => by
        induction n with
        | zero => exact .nil
        | succ n ih => rw [List.replicate_succ, List.replicate_succ, List.flatten_cons, List.flatten_cons]; exact dq.append ih
      refine op_repTW pins sh σ H _ _ v u Q I rx ry ⟨p, b, vs, rfl, rfl, by rw [hK]; exact hq, fun z => h4 (by subst z; exact List.eq_nil_of_length_eq_zero (by simpa using l1)), h1, h2, by omega, fun z hz => ?_⟩
      exact q ι _ _ (Ext.upd hz) (rs.upd hz) (newT rs hz (rep _))
    · cases e
  · rename_i b _ _
    simp only [Option.bind_eq_some_iff] at e
    obtain ⟨xs, e1, e⟩ := e
    split at e
    · rename_i hc
      cases e
      obtain ⟨p, vs, rfl, hq, dq⟩ := mlst_ok rs r1 e1
      cases r2.int_
      have l1 := dq.length
      have rep : ∀ n : Nat, RDs g ι H (List.replicate n xs).flatten (List.replicate n vs).flatten := fun n => by
        induction n with
        | zero => exact .nil
        | succ n ih => rw [List.replicate_succ, List.replicate_succ, List.flatten_cons, List.flatten_cons]; exact dq.append ih
      refine op_rep pins sh σ H _ _ v u Q I rx ry ⟨p, b, vs, rfl, rfl, hq, by omega, by omega, by rw [← l1, hs]; exact hc.2, fun z hz => ?_⟩
      exact q ι _ _ (Ext.upd hz) (rs.upd hz) (newL rs hz (rep _))
    · cases e
  · split at e
    · rename_i hc
      cases e
      exact ints2 _ _ _ rfl rfl (by simp [binT, hc]) fun q ex ey => op_pow pins sh σ H x y v u Q I rx ry ⟨_, _, ex, ey, hc, q⟩
    · cases e
  · split at e
    · rename_i a b hc
      cases e
      exact op_add_str pins sh σ H x y v u Q I rx ry ⟨_, _, r1.str_, r2.str_, by rw [hs]; exact hc, an.same (by simp [binT, hc]) rs (rlT.v (.str _))⟩
    · cases e
  · split at e
    · rename_i a b hc
      cases e
      obtain ⟨p, vs, rfl, h1, d1⟩ := r1.tup_
      obtain ⟨p', ws, rfl, h2, d2⟩ := r2.tup_
      have l1 := d1.length
      have l2 := d2.length
      refine op_catA pins sh σ H _ _ v u Q I rx ry ⟨p, p', vs, ws, rfl, rfl, by rw [hK]; exact h1, by rw [hK]; exact h2, by rw [hs]; omega, fun hx => ?_, fun hx hy => ?_, fun hx hy z hz => ?_⟩
      · subst hx
        have ea : a = [] := by cases a with | nil => rfl | cons _ _ => simp at l1
        subst ea
        exact q ι H _ Ext.refl rs (by simpa using rlT.v (.tup h2 d2))
      · subst hy
        have eb : b = [] := by cases b with | nil => rfl | cons _ _ => simp at l2
        subst eb
        exact q ι H _ Ext.refl rs (by simpa using rlT.v (.tup h1 d1))
      · exact q ι _ _ (Ext.upd hz) (rs.upd hz) (newT rs hz (d1.append d2))
    · cases e
  · simp only [Option.bind_eq_some_iff] at e
    obtain ⟨a, e1, b, e2, e3⟩ := e
    split at e3
    · rename_i hc
      cases e3
      obtain ⟨p, vs, rfl, h1, d1⟩ := lst_ok rs r1 e1
      obtain ⟨p', ws, rfl, h2, d2⟩ := lst_ok rs r2 e2
      have l1 := d1.length
      have l2 := d2.length
      refine op_catF pins sh σ H _ _ v u Q I rx ry ⟨p, p', vs, ws, rfl, rfl, by rw [hK]; exact h1, by rw [hK]; exact h2, by rw [hs]; omega, fun z hz => ?_⟩
      exact q ι _ _ (Ext.upd hz) (rs.upd hz) (newL rs hz (d1.append d2))
    · cases e3
  · cases e

/-! ### comparisons -/
def cmpOf : Cop → CmpOp
  | .eq => .Eq
  | .ne => .NotEq
  | .lt => .Lt
  | .le => .LtE
  | .gt => .Gt
  | .ge => .GtE
  | .is => .Is
  | .isnot => .IsNot
  | .inn => .In
  | .notin => .NotIn
mutual
theorem dp_of : ∀ {d : D} {v : V} {p : PyData}, RD g ι H d v → D.py d = some p → Dp g.K H v p
  | .non, v, p, r, e => by cases r; simp [D.py] at e; subst e; exact .non
  | .bl b, v, p, r, e => by cases r; simp [D.py] at e; subst e; exact .bl b
  | .int b, v, p, r, e => by cases r; simp [D.py] at e; subst e; exact .int b
  | .str b, v, p, r, e => by cases r; simp [D.py] at e; subst e; exact .str b
  | .tup xs, v, p, r, e => by
    cases r with
    | tup h r =>
      simp only [D.py, Option.map_eq_some_iff] at e
      obtain ⟨ds, e1, rfl⟩ := e
      exact .tup h (dps_of r e1)
  | .loc _, v, p, r, e => by simp [D.py] at e
  | .fro xs, v, p, r, e => by
    cases r with
    | fro h r =>
      simp only [D.py, Option.map_eq_some_iff] at e
      obtain ⟨ds, e1, rfl⟩ := e
      exact .lst h.list (dps_of r e1)
  | .ty _, v, p, r, e => by simp [D.py] at e
  | .gl _, v, p, r, e => by simp [D.py] at e
theorem dps_of : ∀ {d : List D} {v : List V} {p : List PyData}, RDs g ι H d v → D.pys d = some p → DpAll g.K H v p
  | [], v, p, r, e => by cases r; simp [D.pys] at e; subst e; exact .nil
  | x :: xs, v, p, r, e => by
    cases r with
    | cons r t =>
      simp only [D.pys, Option.bind_eq_some_iff, Option.map_eq_some_iff] at e
      obtain ⟨d, e1, ds, e2, rfl⟩ := e
      exact .cons (dp_of r e1) (dps_of t e2)
end
theorem dpT_of {t : T} {v : V} {p : PyData} (rs : RS g ι s H) (r : RT g ι H t v) (e : pyOf t s = some p) : Dp g.K H v p := by
  cases t with
  | l xs =>
    simp only [pyOf, Option.map_eq_some_iff] at e
    obtain ⟨ds, e1, rfl⟩ := e
    obtain ⟨a, vs, rfl, h, r⟩ := lst_ok rs r (xs := xs) rfl
    exact .lst h (dps_of r e1)
  | v d =>
    by_cases hl : ∃ n, d = .loc n
    · obtain ⟨n, rfl⟩ := hl
      simp only [pyOf, Option.bind_eq_some_iff, Option.map_eq_some_iff] at e
      obtain ⟨xs, e0, ds, e1, rfl⟩ := e
      obtain ⟨a, vs, rfl, h, r⟩ := lst_ok rs r (xs := xs) e0
      exact .lst h (dps_of r e1)
    · have e' : D.py d = some p := by cases d <;> first | exact e | exact absurd ⟨_, rfl⟩ hl
      cases r with | v r => exact dp_of r e'
theorem eq_ok (hK : X.K = g.K) (hu : X.A.units + 64 < cLine) : OpR X (compareOp .Eq) (rO2 g fun x y s => (eqT x y s).map fun b => .v (.bl b)) := by
  intro pins sh σ H x y v u Q I rx ry h
  obtain ⟨ι, s, tx, ty, rs, r1, r2, an⟩ := h
  obtain ⟨t, e, q⟩ := id an
  simp only [Option.map_eq_some_iff] at e
  obtain ⟨b, e, rfl⟩ := e
  have q' : Q (.bl b) H := q ι H _ Ext.refl rs (rlT.v (.bl b))
  unfold eqT at e
  split at e
  · cases e; cases r1.non_; cases r2.non_; exact op_eq pins sh σ H _ _ v u Q I rx ry ⟨rfl, q'⟩
  · cases e; cases r1.bl_; cases r2.bl_; exact op_eq pins sh σ H _ _ v u Q I rx ry ⟨rfl, by rename_i a b; cases a <;> cases b <;> exact q'⟩
  · cases e; cases r1.int_; cases r2.int_; exact op_eq pins sh σ H _ _ v u Q I rx ry ⟨rfl, by simpa using q'⟩
  · cases e; cases r1.str_; cases r2.str_; exact op_eq pins sh σ H _ _ v u Q I rx ry ⟨rfl, by simpa using q'⟩
  · simp only [Option.bind_eq_some_iff] at e
    obtain ⟨d, e1, e, e2, e3⟩ := e
    split at e3
    · rename_i hsh
      cases e3
      simp only [Bool.and_eq_true] at hsh
      exact op_eqD hu pins sh σ H x y v u Q I rx ry ⟨d, e, by rw [hK]; exact dpT_of rs r1 e1, by rw [hK]; exact dpT_of rs r2 e2, hsh.1, hsh.2, q'⟩
    · cases e3
theorem ne_ok (hK : X.K = g.K) (hu : X.A.units + 64 < cLine) : OpR X (compareOp .NotEq) (rO2 g fun x y s => ((eqT x y s).map (!·)).map fun b => .v (.bl b)) := by
  intro pins sh σ H x y v u Q I rx ry h
  obtain ⟨ι, s, tx, ty, rs, r1, r2, an⟩ := h
  obtain ⟨t, e, q⟩ := id an
  simp only [Option.map_eq_some_iff] at e
  obtain ⟨b', ⟨b, e, rfl⟩, rfl⟩ := e
  have q' : Q (.bl (!b)) H := q ι H _ Ext.refl rs (rlT.v (.bl (!b)))
  unfold eqT at e
  split at e
  · cases e; cases r1.non_; cases r2.non_; exact op_ne pins sh σ H _ _ v u Q I rx ry ⟨rfl, q'⟩
  · cases e; cases r1.bl_; cases r2.bl_; exact op_ne pins sh σ H _ _ v u Q I rx ry ⟨rfl, by rename_i a b; cases a <;> cases b <;> exact q'⟩
  · cases e; cases r1.int_; cases r2.int_; exact op_ne pins sh σ H _ _ v u Q I rx ry ⟨rfl, by simpa using q'⟩
  · cases e; cases r1.str_; cases r2.str_; exact op_ne pins sh σ H _ _ v u Q I rx ry ⟨rfl, by simpa using q'⟩
  · simp only [Option.bind_eq_some_iff] at e
    obtain ⟨d, e1, e, e2, e3⟩ := e
    split at e3
    · rename_i hsh
      cases e3
      simp only [Bool.and_eq_true] at hsh
      exact op_neD hu pins sh σ H x y v u Q I rx ry ⟨d, e, by rw [hK]; exact dpT_of rs r1 e1, by rw [hK]; exact dpT_of rs r2 e2, hsh.1, hsh.2, q'⟩
    · cases e3
theorem ints_ok : ∀ {xs : List D} {vs : List V} {ns : List Int}, RDs g ι H xs vs → intsD xs = some ns → vs = ns.map V.int
  | [], vs, ns, r, e => by cases r; simp [intsD] at e; subst e; rfl
  | x :: xs, vs, ns, r, e => by
    cases r with
    | cons r t =>
      cases x with
      | int i =>
        simp only [intsD, Option.map_eq_some_iff] at e
        obtain ⟨is, e1, rfl⟩ := e
        rw [r.int_, ints_ok t e1]
        rfl
      | _ => simp [intsD] at e
theorem lexAt_ord (op : Nat) (N M : List Int) (z : Bool) (hz : z = ordI op N.length M.length) : ∀ (ns ms : List Int) (i : Nat), N.drop i = ns → M.drop i = ms → i ≤ N.length → i ≤ M.length →
    Ob.lexAt (fun j => decide (N.getD j 0 = M.getD j 0)) (fun j => ordI op (N.getD j 0) (M.getD j 0)) z i (min ns.length ms.length) = ordL op ns ms
  | [], ms, i, h1, h2, l1, l2 => by
    have e1 : N.length = i := by
      have := congrArg List.length h1
      simp at this; omega
    have e2 : M.length = i + ms.length := by
      have := congrArg List.length h2
      simp at this; omega
    simp only [List.length_nil, Nat.zero_min, Ob.lexAt_zero]
    rw [hz, e1, e2]
    cases ms with
    | nil => simp only [ordL, ordI]; split <;> simp
    | cons m ms => simp only [ordL, ordI, List.length_cons]; split <;> first | (simp; done) | (simp; omega)
  | n :: ns, [], i, h1, h2, l1, l2 => by
    have e1 : N.length = i + (n :: ns).length := by
      have := congrArg List.length h1
      simp at this ⊢; omega
    have e2 : M.length = i := by
      have := congrArg List.length h2
      simp at this; omega
    simp only [List.length_nil, Nat.min_zero, Ob.lexAt_zero]
    rw [hz, e1, e2]
    simp only [ordL, ordI, List.length_cons]; split <;> first | (simp; done) | (simp; omega)
  | n :: ns, m :: ms, i, h1, h2, l1, l2 => by
    have e1 : N.length = i + (n :: ns).length := by
      have := congrArg List.length h1
      simp at this ⊢; omega
    have e2 : M.length = i + (m :: ms).length := by
      have := congrArg List.length h2
      simp at this ⊢; omega
    simp only [List.length_cons] at e1 e2
    have g1 : N.getD i 0 = n := by
      have := congrArg (·[0]?) h1
      simp at this
      simp [List.getD, this]
    have g2 : M.getD i 0 = m := by
      have := congrArg (·[0]?) h2
      simp at this
      simp [List.getD, this]
    have d1 : N.drop (i + 1) = ns := by rw [← List.drop_drop, h1]; rfl
    have d2 : M.drop (i + 1) = ms := by rw [← List.drop_drop, h2]; rfl
    have em : min (n :: ns).length (m :: ms).length = min ns.length ms.length + 1 := by simp
    rw [em, Ob.lexAt_succ, g1, g2]
    simp only [ordL]
    by_cases hnm : n = m
    · simp only [hnm, decide_true, if_true]
      rw [lexAt_ord op N M z hz ns ms (i + 1) d1 d2 (by omega) (by omega)]
    · simp only [hnm, decide_false, Bool.false_eq_true, if_false]
def ordOp : Nat → CmpOp
  | 0 => .Lt
  | 1 => .LtE
  | 2 => .Gt
  | _ => .GtE
theorem ord_tup (hK : X.K = g.K) (hu : X.A.units + 64 < cLine) (op : Nat) (ho : op < 4) {pins : List (Addr × Obj)} {sh : Shared} {σ : L2.St} {Q : VK} {a b : Addr} {ns ms : List Int} (I : Inv X pins σ H sh)
    (ha : SqT X.K H a (ns.map V.int)) (hb : SqT X.K H b (ms.map V.int)) (q : Q (.bl (ordL op ns ms)) H) :
    wpAny (model X.prog X.w) X.A (compareOp (ordOp op) (.ref a) (.ref b)) (EP X pins σ Q) X.xe sh := by
  obtain ⟨its, r1, p1, _⟩ := I.tuple ha
  obtain ⟨its2, r2, p2, _⟩ := I.tuple hb
  have i1 : IntsAre its ns := Vals.ints r1
  have i2 : IntsAre its2 ms := Vals.ints r2
  have e1 : its.toArray.size = ns.length := by rw [List.size_toArray]; exact i1.length
  have e2 : its2.toArray.size = ms.length := by rw [List.size_toArray]; exact i2.length
  have at1 : ∀ j (h1 : j < its.toArray.size), ∃ t, its.toArray[j] = .int (ns.getD j 0) t := fun j h1 => PyProof.Rows.IntsAre.int_at i1 _ _ (by simp at h1; simp [h1])
  have at2 : ∀ j (h1 : j < its2.toArray.size), ∃ t, its2.toArray[j] = .int (ms.getD j 0) t := fun j h1 => PyProof.Rows.IntsAre.int_at i2 _ _ (by simp at h1; simp [h1])
  have eqs : ∀ A j (h1 : j < its.toArray.size) (h2 : j < its2.toArray.size), SeqAt.EqAt A sh its.toArray[j] its2.toArray[j] (decide (ns.getD j 0 = ms.getD j 0)) := fun A j h1 h2 => by
    obtain ⟨t, et⟩ := at1 j h1
    obtain ⟨t', et'⟩ := at2 j h2
    rw [et, et']
    have z : (ns.getD j 0 == ms.getD j 0) = decide (ns.getD j 0 = ms.getD j 0) := by
      by_cases q : ns.getD j 0 = ms.getD j 0
      · rw [decide_eq_true q]; exact beq_iff_eq.mpr q
      · rw [decide_eq_false q]; exact beq_eq_false_iff_ne.mpr q
    rw [← z]
    exact SeqAt.EqAt.int_int _ _ _ _
  have fin : ∀ z, z = ordI op ns.length ms.length → Ob.lexAt (fun j => decide (ns.getD j 0 = ms.getD j 0)) (fun j => ordI op (ns.getD j 0) (ms.getD j 0)) z 0 (min ns.length ms.length) = ordL op ns ms :=
    fun z hz => lexAt_ord op ns ms z hz ns ms 0 rfl rfl (Nat.zero_le _) (Nat.zero_le _)
  have hu' : X.A.units < cLine := by omega
  match op, ho with
  | 0, _ =>
    have R := Ob.RcOp.tuples_lt (A := X.A) (s := sh) (e := fun j => decide (ns.getD j 0 = ms.getD j 0)) (r := fun j => ordI 0 (ns.getD j 0) (ms.getD j 0)) p1 p2 hu' (eqs _) (fun j h1 h2 _ => by
      obtain ⟨t, et⟩ := at1 j h1
      obtain ⟨t', et'⟩ := at2 j h2
      rw [et, et']
      exact Ob.RcOp.lt_int _ _ _ _)
    rw [e1, e2, fin _ (by simp [ordI])] at R
    exact R X.prog X.w X.xe (EP X pins σ Q) ⟨.bl _, H, I, rfl, q⟩
  | 1, _ =>
    have R := Ob.RcOp.tuples_le (A := X.A) (s := sh) (e := fun j => decide (ns.getD j 0 = ms.getD j 0)) (r := fun j => ordI 1 (ns.getD j 0) (ms.getD j 0)) p1 p2 hu' (eqs _) (fun j h1 h2 _ => by
      obtain ⟨t, et⟩ := at1 j h1
      obtain ⟨t', et'⟩ := at2 j h2
      rw [et, et']
      exact Ob.RcOp.le_int _ _ _ _)
    rw [e1, e2, fin _ (by simp [ordI])] at R
    exact R X.prog X.w X.xe (EP X pins σ Q) ⟨.bl _, H, I, rfl, q⟩
  | 2, _ =>
    have R := Ob.RcOp.tuples_gt (A := X.A) (s := sh) (e := fun j => decide (ns.getD j 0 = ms.getD j 0)) (r := fun j => ordI 2 (ns.getD j 0) (ms.getD j 0)) p1 p2 hu' (eqs _) (fun j h1 h2 _ => by
      obtain ⟨t, et⟩ := at1 j h1
      obtain ⟨t', et'⟩ := at2 j h2
      rw [et, et']
      exact Ob.RcOp.gt_int _ _ _ _)
    rw [e1, e2, fin _ (by simp [ordI])] at R
    exact R X.prog X.w X.xe (EP X pins σ Q) ⟨.bl _, H, I, rfl, q⟩
  | 3, _ =>
    have R := Ob.RcOp.tuples_ge (A := X.A) (s := sh) (e := fun j => decide (ns.getD j 0 = ms.getD j 0)) (r := fun j => ordI 3 (ns.getD j 0) (ms.getD j 0)) p1 p2 hu' (eqs _) (fun j h1 h2 _ => by
      obtain ⟨t, et⟩ := at1 j h1
      obtain ⟨t', et'⟩ := at2 j h2
      rw [et, et']
      exact Ob.RcOp.ge_int _ _ _ _)
    rw [e1, e2, fin _ (by simp [ordI])] at R
    exact R X.prog X.w X.xe (EP X pins σ Q) ⟨.bl _, H, I, rfl, q⟩
theorem ord_ok (hK : X.K = g.K) (hu : X.A.units + 64 < cLine) (op : Nat) (ho : op < 4) : OpR X (compareOp (ordOp op)) (rO2 g fun x y _ => (ordT op x y).map fun b => .v (.bl b)) := by
  intro pins sh σ H x y v u Q I rx ry h
  obtain ⟨ι, s, tx, ty, rs, r1, r2, an⟩ := h
  obtain ⟨t, e, q⟩ := id an
  simp only [Option.map_eq_some_iff] at e
  obtain ⟨b, e, rfl⟩ := e
  have q' : Q (.bl b) H := q ι H _ Ext.refl rs (rlT.v (.bl b))
  unfold ordT at e
  split at e
  · cases e
    cases r1.int_; cases r2.int_
    match op, ho with
    | 0, _ => exact op_lt pins sh σ H _ _ v u Q I rx ry ⟨_, _, rfl, rfl, q'⟩
    | 1, _ => exact op_le pins sh σ H _ _ v u Q I rx ry ⟨_, _, rfl, rfl, q'⟩
    | 2, _ => exact op_gt pins sh σ H _ _ v u Q I rx ry ⟨_, _, rfl, rfl, q'⟩
    | 3, _ => exact op_ge pins sh σ H _ _ v u Q I rx ry ⟨_, _, rfl, rfl, q'⟩
  · simp only [Option.bind_eq_some_iff, Option.map_eq_some_iff] at e
    obtain ⟨ns, e1, ms, e2, rfl⟩ := e
    obtain ⟨p, vs, rfl, h1, d1⟩ := r1.tup_
    obtain ⟨p', ws, rfl, h2, d2⟩ := r2.tup_
    cases rx; cases ry
    rw [ints_ok d1 e1] at h1
    rw [ints_ok d2 e2] at h2
    exact ord_tup hK hu op ho I (by rw [hK]; exact h1) (by rw [hK]; exact h2) q'
  · cases e
end
end Fy
end
section
set_option Elab.async false
set_option linter.all false
set_option maxRecDepth 100000
set_option maxHeartbeats 1000000
/-! Fy5: is, in, items, slices, built-ins, by values. -/
namespace Fy
open PySem PySem.Spec PyProof.Rows L2
section
variable {g : Glo} {ι : List Addr} {H : Hp} {s : Sto} {X : Cx}

theorem is_none {x : T} {v : V} {d : Bool} (r : RT g ι H x v) (e : isT x (.v .non) = some d) : decide (v = .non) = d := by
  cases r with
  | l h n r => simp [isT] at e; subst e; simp
  | v r => cases r <;> (simp [isT] at e; subst e; simp)
theorem is_ok : OpR X (compareOp .Is) (rO2 g fun x y _ => (isT x y).map fun b => .v (.bl b)) := by
  intro pins sh σ H x y v u Q I rx ry h
  obtain ⟨ι, s, tx, ty, rs, r1, r2, an⟩ := h
  obtain ⟨t, e, q⟩ := id an
  simp only [Option.map_eq_some_iff] at e
  obtain ⟨b, e, rfl⟩ := e
  have q' : Q (.bl b) H := q ι H _ Ext.refl rs (rlT.v (.bl b))
  cases ty with
  | l _ => simp [isT] at e
  | v d =>
    cases d with
    | non =>
      cases r2.non_
      exact op_isN pins sh σ H _ _ v u Q I rx ry ⟨rfl, by rw [is_none r1 e]; exact q'⟩
    | bl c =>
      cases r2.bl_
      cases tx with
      | l _ => simp [isT] at e
      | v d =>
        cases d with
        | bl a =>
          cases r1.bl_
          simp [isT] at e
          subst e
          exact op_is_bl pins sh σ H _ _ v u Q I rx ry ⟨_, _, rfl, rfl, by cases a <;> cases c <;> exact q'⟩
        | _ => simp [isT] at e
    | _ => cases tx <;> simp [isT] at e
theorem isnot_ok : OpR X (compareOp .IsNot) (rO2 g fun x y _ => ((isT x y).map (!·)).map fun b => .v (.bl b)) := by
  intro pins sh σ H x y v u Q I rx ry h
  obtain ⟨ι, s, tx, ty, rs, r1, r2, an⟩ := h
  obtain ⟨t, e, q⟩ := id an
  simp only [Option.map_eq_some_iff] at e
  obtain ⟨b', ⟨b, e, rfl⟩, rfl⟩ := e
  have q' : Q (.bl (!b)) H := q ι H _ Ext.refl rs (rlT.v (.bl _))
  cases ty with
  | l _ => simp [isT] at e
  | v d =>
    cases d with
    | non =>
      cases r2.non_
      exact op_notN pins sh σ H _ _ v u Q I rx ry ⟨rfl, by rw [is_none r1 e]; exact q'⟩
    | bl c =>
      cases r2.bl_
      cases tx with
      | l _ => simp [isT] at e
      | v d =>
        cases d with
        | bl a =>
          cases r1.bl_
          simp [isT] at e
          subst e
          exact op_isnot_bl pins sh σ H _ _ v u Q I rx ry ⟨_, _, rfl, rfl, by cases a <;> cases c <;> exact q'⟩
        | _ => simp [isT] at e
    | _ => cases tx <;> simp [isT] at e

/-! dicts -/
theorem dkA_ok {d : D} {v : V} {k : Ky} (r : RD g ι H d v) (e : dkA d = some k) : v = kV k := by
  cases r <;> (simp [dkA] at e; try (subst e; rfl))
def RVO (g : Glo) (ι : List Addr) (H : Hp) : Option Fy.D → Option V → Prop
  | some d, some v => RD g ι H d v
  | none, none => True
  | _, _ => False
theorem dval_rel {kvs : List (List Ky × Fy.D)} {vk : List (Ky × V)} (r : RKV g ι H (fun k : Ky => [k]) kvs vk) (k : Ky) : RVO g ι H (dval kvs [k]) (valV vk k) := by
  induction r with
  | nil => exact True.intro
  | @cons p q ps qs h t ih =>
    by_cases e : q.1 = k
    · have e1 : dval (p :: ps) [k] = some p.2 := by simp [dval, List.find?_cons, h.1, e]
      rw [e1, valV_pos e]
      exact h.2
    · have e1 : dval (p :: ps) [k] = dval ps [k] := by simp [dval, List.find?_cons, h.1, e]
      rw [e1, valV_neg e]
      exact ih
theorem dset_any {kvs : List (List Ky × Fy.D)} {vk : List (Ky × V)} (r : RKV g ι H (fun k : Ky => [k]) kvs vk) (k : Ky) : (kvs.any fun kv => decide (kv.1 = [k])) = vk.any fun kv => decide (kv.1 = k) := by
  induction r with
  | nil => rfl
  | @cons p q ps qs h t ih => simp only [List.any_cons, h.1, ih, List.cons.injEq, and_true]
theorem dset_map {kvs : List (List Ky × Fy.D)} {vk : List (Ky × V)} (r : RKV g ι H (fun k : Ky => [k]) kvs vk) (k : Ky) {d : Fy.D} {w : V} (rd : RD g ι H d w) :
    RKV g ι H (fun k : Ky => [k]) (kvs.map fun kv => if kv.1 = [k] then (kv.1, d) else kv) (vk.map fun kv => if kv.1 = k then (kv.1, w) else kv) := by
  induction r with
  | nil => exact .nil
  | @cons p q ps qs h t ih =>
    refine .cons ?_ ih
    by_cases e : q.1 = k
    · have e2 : p.1 = [k] := by rw [h.1, e]
      dsimp only
      rw [if_pos e2, if_pos e]
      exact ⟨h.1, rd⟩
    · have e2 : ¬ p.1 = [k] := by rw [h.1]; simpa using e
      dsimp only
      rw [if_neg e2, if_neg e]
      exact h
theorem RKV.snoc {κ : Type} {c : κ → List Ky} {kvs : List (List Ky × Fy.D)} {vk : List (κ × V)} (r : RKV g ι H c kvs vk) {k : κ} {d : Fy.D} {w : V} (rd : RD g ι H d w) : RKV g ι H c (kvs ++ [(c k, d)]) (vk ++ [(k, w)]) := by
  induction r with
  | nil => exact .cons ⟨rfl, rd⟩ .nil
  | cons h t ih => exact .cons h ih
theorem dset_rel {kvs : List (List Ky × Fy.D)} {vk : List (Ky × V)} (r : RKV g ι H (fun k : Ky => [k]) kvs vk) (k : Ky) {d : Fy.D} {w : V} (rd : RD g ι H d w) : RKV g ι H (fun k : Ky => [k]) (dset kvs [k] d) (putK vk k w) := by
  unfold dset putK
  rw [dset_any r k]
  split
  · exact dset_map r k rd
  · exact r.snoc rd
theorem dicAt_ok {x y : T} {v u : V} {o : Option Fy.D} (rs : RS g ι s H) (r1 : RT g ι H x v) (r2 : RT g ι H y u) (e : dicAt x y s = some o) : ∃ a ov, v = .ref a ∧ DGet H a u ov ∧ RVO g ι H o ov := by
  unfold dicAt at e
  split at e
  · rename_i n k
    split at e
    · rename_i t kvs hn
      cases r1 with
      | v r1 => cases r1 with
        | @loc _ a q =>
          obtain ⟨b, e1, ro⟩ := rs.at_ n _ hn
          have eb : b = a := by rw [q] at e1; exact (Option.some.inj e1).symm
          subst eb
          cases t with
          | true => simp [dkey] at e
          | false =>
            obtain ⟨vk, e2, rk⟩ := ro
            simp only [dkey, Bool.false_eq_true, if_false, Option.map_eq_some_iff] at e
            obtain ⟨_, ⟨k', ek, rfl⟩, rfl⟩ := e
            cases r2 with
            | v r2 =>
              have eu := dkA_ok r2 ek
              subst eu
              exact ⟨b, _, rfl, .k e2, dval_rel rk k'⟩
    · cases e
  · cases e
theorem ix_dic (hu : X.A.units + 1 < cLine) : IxR X (fun x y H Q => ∃ a v, x = .ref a ∧ DGet H a y (some v) ∧ Q v H) := by
  intro va sl pins sh σ H x y v u Q I rx ry ⟨a, w, ex, dg, q⟩ hsub
  subst ex
  obtain rfl : v = Value.ref a := rx
  exact tail_any (dict_typeIs I dg) slot_dict_getitem.lookup (d_getItem hu I dg ry fun w' s3 I3 rw' => ⟨w, H, I3, rw', q⟩) hsub
theorem op_dic_in (hu : X.A.units + 1 < cLine) : OpR X (compareOp .In) (fun y x H Q => ∃ a o, x = .ref a ∧ DGet H a y o ∧ Q (.bl o.isSome) H) := by
  intro pins sh σ H y x v u Q I ry rx ⟨a, o, ex, dg, q⟩
  subst ex
  obtain rfl : u = Value.ref a := rx
  exact d_in hu I dg ry fun s3 I3 => ⟨.bl o.isSome, H, I3, rfl, q⟩
theorem op_dic_notin (hu : X.A.units + 1 < cLine) : OpR X (compareOp .NotIn) (fun y x H Q => ∃ a o, x = .ref a ∧ DGet H a y o ∧ Q (.bl (!o.isSome)) H) := by
  intro pins sh σ H y x v u Q I ry rx ⟨a, o, ex, dg, q⟩
  subst ex
  obtain rfl : u = Value.ref a := rx
  exact d_notIn hu I dg ry fun s3 I3 => ⟨.bl (!o.isSome), H, I3, rfl, q⟩
theorem RVO.isSome {o : Option Fy.D} {ov : Option V} (r : RVO g ι H o ov) : ov.isSome = o.isSome := by
  cases o <;> cases ov <;> first | rfl | exact r.elim

theorem flat_of {d : D} {v : V} (r : RD g ι H d v) (f : flat d = true) : flatV v = true := by
  cases r <;> first | rfl | (simp [flat] at f)
theorem flats_of : ∀ {xs : List D} {vs : List V}, RDs g ι H xs vs → xs.all flat = true → vs.all flatV = true
  | _, _, .nil, _ => rfl
  | _, _, .cons r t, f => by
    simp only [List.all_cons, Bool.and_eq_true] at f ⊢
    exact ⟨flat_of r f.1, flats_of t f.2⟩
theorem eqF_of {d e : D} {v w : V} (r : RD g ι H d v) (q : RD g ι H e w) (f : flat d = true) (f' : flat e = true) : eqV v w = eqF d e := by
  cases r <;> (first | (simp [flat] at f; done) | skip) <;> cases q <;> first | rfl | (simp [flat] at f')
theorem any_of {d : D} {v : V} (r : RD g ι H d v) (f : flat d = true) : ∀ {xs : List D} {vs : List V}, RDs g ι H xs vs → xs.all flat = true → inV v vs = xs.any fun z => eqF z d
  | _, _, .nil, _ => rfl
  | _, _, .cons r' t, f' => by
    simp only [List.all_cons, Bool.and_eq_true] at f'
    unfold inV
    rw [List.any_cons, List.any_cons, eqF_of r' r f'.1 f, ← any_of r f t f'.2]
    rfl
/-- in a tuple of nested data -/
def rInTD (K : PySem.W.Frag) : R2 := fun x y H Q => ∃ d ds, Dp K H x d ∧ Dp K H y (.tuple ds) ∧ SeqAt.shaped d = true ∧ SeqAt.shaped (.list ds) = true ∧ Q (.bl (ds.any fun z => PyData.eqv z d)) H
def rNotInTD (K : PySem.W.Frag) : R2 := fun x y H Q => ∃ d ds, Dp K H x d ∧ Dp K H y (.tuple ds) ∧ SeqAt.shaped d = true ∧ SeqAt.shaped (.list ds) = true ∧ Q (.bl (!ds.any fun z => PyData.eqv z d)) H
theorem op_inTD (hu : X.A.units + 65 < cLine) : OpR X (compareOp .In) (rInTD X.K) := by
  intro pins sh σ H x y v u Q I rx ry ⟨d, ds, h1, h2, s1, s2, q⟩
  obtain ⟨as, q1⟩ := Dp.reads I d x v h1 rx
  obtain ⟨bs, q2⟩ := Dp.reads I (.tuple ds) y u h2 ry
  have lay : PyData.canLayAll0 ds = true := SeqAt.canLay_of_shaped s2
  exact SeqAt.in_tuple_reads q2 q1 lay (SeqAt.canLay_of_shaped s1) (room_in_shaped s1 hu) ⟨V.bl _, H, I, rfl, q⟩
theorem op_notInTD (hu : X.A.units + 65 < cLine) : OpR X (compareOp .NotIn) (rNotInTD X.K) := by
  intro pins sh σ H x y v u Q I rx ry ⟨d, ds, h1, h2, s1, s2, q⟩
  obtain ⟨as, q1⟩ := Dp.reads I d x v h1 rx
  obtain ⟨bs, q2⟩ := Dp.reads I (.tuple ds) y u h2 ry
  have lay : PyData.canLayAll0 ds = true := SeqAt.canLay_of_shaped s2
  exact SeqAt.notIn_tuple_reads q2 q1 lay (SeqAt.canLay_of_shaped s1) (room_in_shaped s1 hu) ⟨V.bl _, H, I, rfl, q⟩
theorem in_gen (hK : X.K = g.K) (hu : X.A.units + 65 < cLine) {tx ty : T} {x y : V} {b : Bool} (rs : RS g ι s H) (r1 : RT g ι H tx x) (r2 : RT g ι H ty y) (e : inT tx ty s = some b) :
    (∃ a o, y = .ref a ∧ DGet H a x o ∧ o.isSome = b) ∨ (∃ p xs, y = .ref p ∧ (SqL X.K H p xs ∨ SqT X.K H p xs) ∧ flatV x = true ∧ xs.all flatV = true ∧ inV x xs = b) ∨
    (∃ d ds, Dp X.K H x d ∧ (Dp X.K H y (.list ds) ∨ Dp X.K H y (.tuple ds)) ∧ SeqAt.shaped d = true ∧ SeqAt.shaped (.list ds) = true ∧ (ds.any fun z => PyData.eqv z d) = b) := by
  unfold inT at e
  split at e
  · rename_i o he
    obtain ⟨a, ov, ey, dg, ro⟩ := dicAt_ok rs r2 r1 he
    exact .inl ⟨a, ov, ey, dg, by rw [ro.isSome]; exact Option.some.inj e⟩
  refine .inr ?_
  simp only [Option.bind_eq_some_iff] at e
  obtain ⟨xs, e1, e2⟩ := e
  obtain ⟨a, vs, rfl, hq, dq, ht, hl⟩ := seq_ok rs r2 e1
  split at e2
  · rename_i hf
    simp only [Bool.and_eq_true] at hf
    cases e2
    cases tx with
    | l _ => cases hf.1
    | v d =>
      cases r1 with
      | v r1 => exact .inl ⟨a, vs, rfl, by rw [hK]; exact hq, flat_of r1 hf.1, flats_of dq hf.2, any_of r1 hf.1 dq hf.2⟩
  · simp only [Option.bind_eq_some_iff] at e2
    obtain ⟨p, e3, ps, e4, e5⟩ := e2
    split at e5
    · rename_i hsh
      simp only [Bool.and_eq_true] at hsh
      cases e5
      refine .inr ⟨p, ps, by rw [hK]; exact dpT_of rs r1 e3, ?_, hsh.1, hsh.2, rfl⟩
      rw [hK]
      by_cases hy : ∃ ys, ty = .v (.tup ys)
      · exact .inr (.tup (ht hy) (dps_of dq e4))
      · exact .inl (.lst (hl fun ys e => hy ⟨ys, e⟩) (dps_of dq e4))
    · cases e5
theorem in_ok (hK : X.K = g.K) (hu : X.A.units + 65 < cLine) : OpR X (compareOp .In) (rO2 g fun x y s => (inT x y s).map fun b => .v (.bl b)) := by
  intro pins sh σ H x y v u Q I rx ry h
  obtain ⟨ι, s, tx, ty, rs, r1, r2, an⟩ := h
  obtain ⟨t, e, q⟩ := id an
  simp only [Option.map_eq_some_iff] at e
  obtain ⟨b, e, rfl⟩ := e
  have q' : Q (.bl b) H := q ι H _ Ext.refl rs (rlT.v (.bl b))
  rcases in_gen hK hu rs r1 r2 e with ⟨a, o, ey, dg, rfl⟩ | ⟨p, xs, ey, hq, f1, f2, rfl⟩ | ⟨d, ds, h1, h2 | h2, s1, s2, rfl⟩
  · exact op_dic_in (by omega) pins sh σ H _ _ v u Q I rx ry ⟨a, o, ey, dg, q'⟩
  · exact op_in_seq pins sh σ H _ _ v u Q I rx ry ⟨p, xs, ey, hq, f1, f2, q'⟩
  · exact op_inD hu pins sh σ H _ _ v u Q I rx ry ⟨d, ds, h1, h2, s1, s2, q'⟩
  · exact op_inTD hu pins sh σ H _ _ v u Q I rx ry ⟨d, ds, h1, h2, s1, s2, q'⟩
theorem notin_ok (hK : X.K = g.K) (hu : X.A.units + 65 < cLine) : OpR X (compareOp .NotIn) (rO2 g fun x y s => ((inT x y s).map (!·)).map fun b => .v (.bl b)) := by
  intro pins sh σ H x y v u Q I rx ry h
  obtain ⟨ι, s, tx, ty, rs, r1, r2, an⟩ := h
  obtain ⟨t, e, q⟩ := id an
  simp only [Option.map_eq_some_iff] at e
  obtain ⟨b', ⟨b, e, rfl⟩, rfl⟩ := e
  have q' : Q (.bl (!b)) H := q ι H _ Ext.refl rs (rlT.v (.bl _))
  rcases in_gen hK hu rs r1 r2 e with ⟨a, o, ey, dg, rfl⟩ | ⟨p, xs, ey, hq, f1, f2, rfl⟩ | ⟨d, ds, h1, h2 | h2, s1, s2, rfl⟩
  · exact op_dic_notin (by omega) pins sh σ H _ _ v u Q I rx ry ⟨a, o, ey, dg, q'⟩
  · exact op_notIn_seq pins sh σ H _ _ v u Q I rx ry ⟨p, xs, ey, hq, f1, f2, q'⟩
  · exact op_notInD hu pins sh σ H _ _ v u Q I rx ry ⟨d, ds, h1, h2, s1, s2, q'⟩
  · exact op_notInTD hu pins sh σ H _ _ v u Q I rx ry ⟨d, ds, h1, h2, s1, s2, q'⟩
theorem cmp_ok (hK : X.K = g.K) (hu : X.A.units + 65 < cLine) (op : Cop) : OpR X (compareOp (cmpOf op)) (rO2 g fun x y s => (cmpT op x y s).map fun b => .v (.bl b)) := by
  have hu' : X.A.units + 64 < cLine := by omega
  cases op with
  | eq => exact eq_ok hK hu'
  | ne => exact ne_ok hK hu'
  | lt => exact ord_ok hK hu' 0 (by decide)
  | le => exact ord_ok hK hu' 1 (by decide)
  | gt => exact ord_ok hK hu' 2 (by decide)
  | ge => exact ord_ok hK hu' 3 (by decide)
  | is => exact is_ok
  | isnot => exact isnot_ok
  | inn => exact in_ok hK hu
  | notin => exact notin_ok hK hu

/-! ### items and slices -/
theorem atI_ok {xs : List D} {vs : List V} {i : Int} {d : D} (r : RDs g ι H xs vs) (e : atI xs i = some d) : ∃ v, atI vs i = some v ∧ RD g ι H d v := by
  unfold atI at e ⊢
  rw [← r.length]
  cases h : ixN xs.length i with
  | none => rw [h] at e; cases e
  | some j =>
    rw [h] at e
    exact r.get e
theorem idx_ok (hK : X.K = g.K) (hu : X.A.units + 65 < cLine) : IxR X (rO2 g idxT) := by
  intro va sl pins sh σ H x y v u Q I rx ry h hsub
  obtain ⟨ι, s, tx, ty, rs, r1, r2, an⟩ := h
  obtain ⟨t, e, q⟩ := id an
  unfold idxT at e
  split at e
  · rename_i o he
    obtain ⟨a, ov, ey, dg, ro⟩ := dicAt_ok rs r1 r2 he
    cases o with
    | none => cases e
    | some d =>
      cases ov with
      | none => exact ro.elim
      | some w =>
        cases e
        exact ix_dic (by omega) va sl pins sh σ H _ _ v u Q I rx ry ⟨a, w, ey, dg, q ι H _ Ext.refl rs (rlT.v ro)⟩ hsub
  cases ty with
  | l _ => simp at e
  | v d =>
    cases d with
    | int i =>
      cases r2.int_
      simp only [Option.map_eq_some_iff, Option.bind_eq_some_iff] at e
      obtain ⟨d, ⟨xs, e1, e2⟩, rfl⟩ := e
      obtain ⟨a, vs, rfl, hq, dq, ht, hl⟩ := seq_ok rs r1 e1
      obtain ⟨w, e3, rw'⟩ := atI_ok dq e2
      have q' : Q w H := q ι H _ Ext.refl rs (rlT.v rw')
      rcases hq with hq | hq
      · exact ix_list va sl pins sh σ H _ _ v u Q I rx ry ⟨a, vs, i, w, rfl, rfl, by rw [hK]; exact hq, e3, q'⟩ hsub
      · exact ix_tup va sl pins sh σ H _ _ v u Q I rx ry ⟨a, vs, i, w, rfl, rfl, by rw [hK]; exact hq, e3, q'⟩ hsub
    | _ => simp at e
theorem cut_ok {xs : List D} {vs : List V} (r : RDs g ι H xs vs) (lo hi : Option Int) : RDs g ι H (cutD xs lo hi) (cutV vs lo hi) := by
  unfold cutD cutV
  rw [r.length]
  exact (r.drop _).take _
def rOS (g : Glo) : V → Option Int → Option Int → Hp → VK → Prop := fun x lo hi H Q => ∃ ι s tx, RS g ι s H ∧ RT g ι H tx x ∧ Ans g ι s H (slcT tx lo hi s) Q
theorem slc_ok (hK : X.K = g.K) : SlR X (rOS g) := by
  intro pins sh σ H x v vl vu lo hi sl Q I rx hs pl pu h
  obtain ⟨ι, s, tx, rs, r1, an⟩ := h
  obtain ⟨t, e, q⟩ := id an
  have lst : ∀ xs, lstOf tx s = some xs → t = .l (cutD xs lo hi) → ∃ T id, typeLookup (.type T) "__getitem__" = pure (some (.builtin id)) ∧ sh.TypeIs v T ∧ wpAny (model X.prog X.w) X.A (getItem v (.ref sl)) (EP X pins σ Q) X.xe sh := fun xs e1 e2 => by
    obtain ⟨a, vs, rfl, hq, dq⟩ := lst_ok rs r1 e1
    refine sl_list pins sh σ H _ v vl vu lo hi sl Q I rx hs pl pu ⟨a, vs, rfl, by rw [hK]; exact hq, fun p hp => ?_⟩
    subst e2
    exact q ι _ _ (Ext.upd hp) (rs.upd hp) (newL rs hp (cut_ok dq lo hi))
  cases tx with
  | l xs =>
    simp only [slcT, Option.map_eq_some_iff] at e
    obtain ⟨ys, e1, e2⟩ := e
    exact lst ys e1 e2.symm
  | v d =>
    cases d with
    | tup xs =>
      have et : T.v (.tup (cutD xs lo hi)) = t := by simpa [slcT] using e
      subst et
      obtain ⟨a, vs, rfl, hq, dq⟩ := r1.tup_
      refine sl_tupA pins sh σ H _ v vl vu lo hi sl Q I rx hs pl pu ⟨a, vs, rfl, by rw [hK]; exact hq, fun hw => ?_, fun hw p hp => ?_⟩
      · have ec : cutD xs lo hi = xs := by
          have hl := dq.length
          unfold cutD
          rw [hl, hw.1, hw.2, ← hl]
          simp
        rw [ec] at q
        exact q ι H _ Ext.refl rs (rlT.v (.tup hq dq))
      · exact q ι _ _ (Ext.upd hp) (rs.upd hp) (newT rs hp (cut_ok dq lo hi))
    | _ =>
      first
        | (simp [slcT, lstOf] at e; done)
        | (simp only [slcT, Option.map_eq_some_iff] at e
           obtain ⟨ys, e1, e2⟩ := e
           exact lst ys e1 e2.symm)

/-! ### built-ins -/
theorem bools_ok : ∀ {xs : List D} {vs : List V} {bs : List Bool}, RDs g ι H xs vs → bools xs = some bs → vs = bs.map V.bl
  | [], vs, ns, r, e => by cases r; simp [bools] at e; subst e; rfl
  | x :: xs, vs, ns, r, e => by
    cases r with
    | cons r t =>
      cases x with
      | bl i =>
        simp only [bools, Option.map_eq_some_iff] at e
        obtain ⟨is, e1, rfl⟩ := e
        cases r
        rw [bools_ok t e1]
        rfl
      | _ => simp [bools] at e
theorem kit_kinds : ∀ t ∈ ["NoneType", "bool", "int", "str", "tuple", "list", "dict"], ∀ c ∈ kinds, kitB t c = some (isSub t c) := by decide +kernel
theorem ty_ok {t : T} {v : V} {n : String} (rs : RS g ι s H) (r : RT g ι H t v) (e : tyOf t s = some n) : TyX g.K H v (.type n) ∧ n ∈ ["NoneType", "bool", "int", "str", "tuple", "list", "dict"] := by
  cases r with
  | l h nn r => simp [tyOf] at e; subst e; exact ⟨.base (.lst h), by simp⟩
  | @v d v r =>
    cases r with
    | non => simp [tyOf] at e; subst e; exact ⟨.base .non, by simp⟩
    | bl b => simp [tyOf] at e; subst e; exact ⟨.base (.bl b), by simp⟩
    | int i => simp [tyOf] at e; subst e; exact ⟨.base (.int i), by simp⟩
    | str x => simp [tyOf] at e; subst e; exact ⟨.base (.str x), by simp⟩
    | ty m => simp [tyOf] at e
    | gl m => simp [tyOf] at e
    | tup h r =>
      simp [tyOf] at e
      subst e
      refine ⟨?_, by simp⟩
      rcases h with (h | ⟨o, h⟩) | ⟨o, its, m, h1, h2, _⟩
      · exact .base (.tup h)
      · exact .fTuple h
      · exact .kTuple h1 h2
    | fro h r =>
      simp [tyOf] at e
      subst e
      refine ⟨?_, by simp⟩
      rcases h with ⟨o, h⟩ | ⟨o, its, m, h1, h2, _⟩
      · exact .base (.frz h)
      · exact .kList h1 h2
    | @loc m a h =>
      simp only [tyOf] at e
      cases q : s[m]? with
      | none => rw [q] at e; cases e
      | some o =>
        rw [q] at e
        obtain ⟨b, e3, r3⟩ := rs.at_ m o q
        have eb : b = a := by rw [h] at e3; exact (Option.some.inj e3).symm
        subst eb
        cases o with
        | lst ys => cases e; obtain ⟨vs, e4, _⟩ := r3; exact ⟨.base (.lst e4), by simp⟩
        | dic t ys =>
          cases e
          cases t with
          | true => obtain ⟨vs, e4, _⟩ := r3; exact ⟨.base (.dT e4), by simp⟩
          | false => obtain ⟨vs, e4, _⟩ := r3; exact ⟨.base (.dK e4), by simp⟩
        | ins _ _ => cases e

def biOf : Bi → Value
  | .len => .builtin "len"
  | .int => .type "int"
  | .abs => .builtin "abs"
  | .isinst => .builtin "isinstance"
  | .all => .builtin "all"
  | .any => .builtin "any"
  | .tuple => .type "tuple"
  | .list => .type "list"
  | .min => .builtin "min"
  | .max => .builtin "max"
  | .sum => .builtin "sum"
  | .sorted => .builtin "sorted"
theorem RTs.one {t : T} {vs : List V} (r : RTs g ι H [t] vs) : ∃ v, vs = [v] ∧ RT g ι H t v := by
  cases r with | cons r t => cases t; exact ⟨_, rfl, r⟩
theorem RTs.two {t u : T} {vs : List V} (r : RTs g ι H [t, u] vs) : ∃ v w, vs = [v, w] ∧ RT g ι H t v ∧ RT g ι H u w := by
  cases r with | cons r t => cases t with | cons r' t => cases t; exact ⟨_, _, rfl, r, r'⟩
def rOB (g : Glo) (f : Bi) : List V → Hp → VK → Prop := fun vs H Q => ∃ ι s ts, RS g ι s H ∧ RTs g ι H ts vs ∧ Ans g ι s H (biT f ts s) Q
theorem bi_ok (hK : X.K = g.K) (hc : X.calm = true) (f : Bi) : CallR X (biOf f) (rOB g f) := by
  intro pins sh σ H vs us Q I rv h
  obtain ⟨ι, s, ts, rs, r, an⟩ := h
  obtain ⟨t, e, q⟩ := id an
  have hs : sizeLine = LIM := sizeLine_eq
  have fin : ∀ d v, t = .v d → RD g ι H d v → Q v H := fun d v et rd => by subst et; exact q ι H _ Ext.refl rs (rlT.v rd)
  unfold biT at e
  split at e
  · -- len
    obtain ⟨v, rfl, r1⟩ := r.one
    split at e
    · split at e
      · rename_i z hz
        cases e
        cases r1.str_
        exact call_len pins sh σ H _ us Q I rv ⟨_, z.length, rfl, ⟨by rw [hs]; exact hz, rfl⟩, fin _ _ rfl (.int _)⟩
      · cases e
    · simp only [Option.map_eq_some_iff] at e
      obtain ⟨xs, e1, e2⟩ := e
      obtain ⟨a, ws, rfl, hq, dq, _⟩ := seq_ok rs r1 e1
      refine call_len pins sh σ H _ us Q I rv ⟨_, ws.length, rfl, ?_, ?_⟩
      · rcases hq with hq | hq
        · exact .inl ⟨ws, by rw [hK]; exact hq, rfl⟩
        · exact .inr ⟨ws, by rw [hK]; exact hq, rfl⟩
      · rw [← dq.length]
        exact fin _ _ e2.symm (.int _)
  · obtain ⟨v, rfl, r1⟩ := r.one
    cases r1.int_
    cases e
    exact call_int1 pins sh σ H _ us Q I rv (.inl ⟨_, rfl, fin _ _ rfl (.int _)⟩)
  · obtain ⟨v, rfl, r1⟩ := r.one
    cases r1.bl_
    cases e
    exact call_int1 pins sh σ H _ us Q I rv (.inr ⟨_, rfl, fin _ _ rfl (.int _)⟩)
  · obtain ⟨v, rfl, r1⟩ := r.one
    cases r1.int_
    cases e
    exact call_abs pins sh σ H _ us Q I rv ⟨_, rfl, fin _ _ rfl (.int _)⟩
  · -- isinstance
    obtain ⟨v, w, rfl, r1, r2⟩ := r.two
    cases r2.ty_
    simp only [Option.bind_eq_some_iff] at e
    obtain ⟨n, e1, e2⟩ := e
    split at e2
    · rename_i hk
      cases e2
      obtain ⟨tx, hn⟩ := ty_ok rs r1 e1
      exact call_isi pins sh σ H _ us Q I rv ⟨_, _, _, _, _, rfl, .ty _, by rw [hK]; exact tx, kit_ty (kit_kinds n hn _ hk), fin _ _ rfl (.bl _)⟩
    · cases e2
  · obtain ⟨v, rfl, r1⟩ := r.one
    simp only [Option.map_eq_some_iff, Option.bind_eq_some_iff] at e
    obtain ⟨bs, ⟨xs, e1, e2⟩, e3⟩ := e
    obtain ⟨a, ws, rfl, hq, dq⟩ := lst_ok rs r1 e1
    rw [bools_ok dq e2] at hq
    exact cr_all hc pins sh σ H _ us Q I rv ⟨a, bs, rfl, by rw [hK]; exact hq, fin _ _ e3.symm (.bl _)⟩
  · obtain ⟨v, rfl, r1⟩ := r.one
    simp only [Option.map_eq_some_iff, Option.bind_eq_some_iff] at e
    obtain ⟨bs, ⟨xs, e1, e2⟩, e3⟩ := e
    obtain ⟨a, ws, rfl, hq, dq⟩ := lst_ok rs r1 e1
    rw [bools_ok dq e2] at hq
    exact cr_any hc pins sh σ H _ us Q I rv ⟨a, bs, rfl, by rw [hK]; exact hq, fin _ _ e3.symm (.bl _)⟩
  · -- tuple
    obtain ⟨v, rfl, r1⟩ := r.one
    simp only [Option.map_eq_some_iff] at e
    obtain ⟨xs, e1, e2⟩ := e
    obtain ⟨a, ws, rfl, hq, dq, _⟩ := seq_ok rs r1 e1
    refine call_tuple_of pins sh σ H _ us Q I rv ⟨a, ws, rfl, ?_⟩
    rcases hq with hq | hq
    · exact .inl ⟨by rw [hK]; exact hq, fun l hl => by subst e2; exact q ι _ _ (Ext.upd hl) (rs.upd hl) (newT rs hl dq)⟩
    · exact .inr ⟨by rw [hK]; exact hq, fin _ _ e2.symm (.tup hq dq)⟩
  · obtain ⟨v, rfl, r1⟩ := r.one
    simp only [Option.map_eq_some_iff] at e
    obtain ⟨xs, e1, e2⟩ := e
    obtain ⟨a, ws, rfl, hq, dq, _⟩ := seq_ok rs r1 e1
    refine call_list_of pins sh σ H _ us Q I rv ⟨a, ws, rfl, by rw [hK]; exact hq, fun l hl => ?_⟩
    subst e2
    exact q ι _ _ (Ext.upd hl) (rs.upd hl) (newL rs hl dq)
  · obtain ⟨v, w, rfl, r1, r2⟩ := r.two
    cases r1.int_; cases r2.int_
    cases e
    exact call_min2 hc pins sh σ H _ us Q I rv ⟨_, _, rfl, fin _ _ rfl (.int _)⟩
  · obtain ⟨v, w, rfl, r1, r2⟩ := r.two
    cases r1.int_; cases r2.int_
    cases e
    exact call_max2 hc pins sh σ H _ us Q I rv ⟨_, _, rfl, fin _ _ rfl (.int _)⟩
  · obtain ⟨v, rfl, r1⟩ := r.one
    simp only [Option.map_eq_some_iff, Option.bind_eq_some_iff] at e
    obtain ⟨bs, ⟨xs, e1, e2⟩, e3⟩ := e
    obtain ⟨a, ws, rfl, hq, dq⟩ := lst_ok rs r1 e1
    rw [ints_ok dq e2] at hq
    exact cr_sum hc pins sh σ H _ us Q I rv ⟨a, bs, rfl, by rw [hK]; exact hq, fin _ _ e3.symm (.int _)⟩
  · -- sorted
    obtain ⟨v, rfl, r1⟩ := r.one
    simp only [Option.map_eq_some_iff, Option.bind_eq_some_iff] at e
    obtain ⟨bs, ⟨xs, e1, e2⟩, e3⟩ := e
    obtain ⟨a, ws, rfl, hq, dq⟩ := lst_ok rs r1 e1
    rw [ints_ok dq e2] at hq
    refine cr_sortedI pins sh σ H _ us Q I rv ⟨a, bs, rfl, by rw [hK]; exact hq, fun ns' p hp hs' hn => ?_⟩
    have same : ns' = bs.mergeSort fun a b => decide (a ≤ b) := by
      refine List.Perm.eq_of_pairwise (le := fun a b : Int => a ≤ b) (fun a b _ _ h1 h2 => Int.le_antisymm h1 h2) hs' ?_ (hp.trans (List.mergeSort_perm _ _).symm)
      refine (List.pairwise_mergeSort (le := fun a b : Int => decide (a ≤ b)) (fun a b c h1 h2 => ?_) (fun a b => ?_) bs).imp fun {a b} h => of_decide_eq_true h
      · have h1 := of_decide_eq_true h1; have h2 := of_decide_eq_true h2; exact decide_eq_true (Int.le_trans h1 h2)
      · rcases Int.le_total a b with h | h <;> simp [h]
    subst same
    have rr : ∀ js : List Int, RDs g ι H (js.map Fy.D.int) (js.map V.int) := fun js => by
      induction js with
      | nil => exact .nil
      | cons j js ih => exact .cons (.int j) ih
    rw [← e3] at q
    exact q ι _ _ (Ext.upd hn) (rs.upd hn) (newL rs hn (rr _))
  · cases e
end
end Fy
end
section
set_option Elab.async false
set_option linter.all false
set_option maxRecDepth 100000
set_option maxHeartbeats 1000000
/-! Fy6: targets, what is walked, the loops of comprehensions. -/
namespace Fy
open PySem PySem.Spec PyProof.Rows L2
section
variable {g : Glo} {ι : List Addr} {H : Hp} {s : Sto} {X : Cx} {W : WX}

/-! ### names -/
def visB (sc : Scope) (x : Str) : Bool :=
  match sc.names.lookup x with
  | some .local => true
  | some .cell => true
  | some .free => true
  | _ => false
theorem visB_ok {sc : Scope} {x : Str} (h : visB sc x = true) : Vis sc x := by
  unfold visB at h
  split at h
  · exact .inl (by assumption)
  · exact .inr (.inl (by assumption))
  · exact .inr (.inr (by assumption))
  · cases h
/-- a name that may be stored: fb tells whose cells are the frame's own -/
def locB (sc : Scope) (fb : Str → Bool) (x : Str) : Bool :=
  match sc.names.lookup x with
  | some .local => true
  | some .cell => fb x
  | _ => false
theorem locB_ok {sc : Scope} {fb : Str → Bool} {x : Str} (h : locB sc fb x = true) : Loc sc x ∧ (fb x = true ∨ sc.names.lookup x = some .local) := by
  unfold locB at h
  split at h
  · exact ⟨.inl (by assumption), .inr (by assumption)⟩
  · exact ⟨.inr (by assumption), .inl h⟩
  · cases h
def glB (sc : Scope) (x : Str) : Bool :=
  match sc.names.lookup x with
  | some .globalImplicit => true
  | _ => false
theorem glB_ok {X : Cx} {x : Str} (h : glB X.env.scope x = true) : Gl X x := by
  unfold glB at h
  split at h
  · assumption
  · cases h

/-! ### targets -/
mutual
def ckT (sc : Scope) (fb : Str → Bool) (N : List Str) : Tg → Expr → Bool
  | .nm i, .Name x _ => decide (N[i]? = some x) && locB sc fb x
  | .tp ts, .Tuple es _ _ => ckTs sc fb N ts es
  | _, _ => false
def ckTs (sc : Scope) (fb : Str → Bool) (N : List Str) : Tgs → List Expr → Bool
  | .nil, [] => true
  | .cons t ts, e :: es => ckT sc fb N t e && ckTs sc fb N ts es
  | _, _ => false
end
/-- what the evaluator's store of a target gives -/
def gE (g : Glo) (t : Tg) : TG := fun v σ H Q => ∃ ι ρ s d ρ', RE g ι H ρ σ ∧ RS g ι s H ∧ RD g ι H d v ∧ bindT t d ρ = some ρ' ∧ ∀ σ', RE g ι H ρ' σ' → (∀ vs, (∀ i ∈ t.slots, i ∈ vs) → L2.wipe σ' vs = L2.wipe σ vs) → Q σ' H
def gEs (g : Glo) (t : Tgs) : TGs := fun vs σ H Q => ∃ ι ρ s ds ρ', RE g ι H ρ σ ∧ RS g ι s H ∧ RDs g ι H ds vs ∧ bindTs t ds ρ = some ρ' ∧ ∀ σ', RE g ι H ρ' σ' → (∀ vs, (∀ i ∈ t.slots, i ∈ vs) → L2.wipe σ' vs = L2.wipe σ vs) → Q σ' H
theorem PG.imp {X : Cx} {e : Expr} {t t' : TG} (h : PG X e t) (f : ∀ v σ H Q, t' v σ H Q → t v σ H Q) : PG X e t' := ⟨fun pins s σ H v u Q I r w => h.run pins s σ H v u Q I r (f _ _ _ _ w)⟩
theorem PGs.imp {X : Cx} {e : List Expr} {t t' : TGs} (h : PGs X e t) (f : ∀ v σ H Q, t' v σ H Q → t v σ H Q) : PGs X e t' := ⟨fun pins s σ H v u Q I r w => h.run pins s σ H v u Q I r (f _ _ _ _ w)⟩
theorem ckTs_len {sc : Scope} {fb : Str → Bool} {N : List Str} : ∀ {ts : Tgs} {es : List Expr}, ckTs sc fb N ts es = true → es.length = ts.len
  | .nil, [], _ => rfl
  | .cons t ts, e :: es, h => by
    simp only [ckTs, Bool.and_eq_true] at h
    simp [Tgs.len, ckTs_len h.2]
  | .nil, _ :: _, h => by simp [ckTs] at h
  | .cons _ _, [], h => by simp [ckTs] at h
theorem each_len (env : PySem.Env) : ∀ es : List Expr, (assignEach es env).length = es.length
  | [] => rfl
  | e :: es => by cases e <;> simp [assignEach, each_len env es]
theorem ckT_star {sc : Scope} {fb : Str → Bool} {N : List Str} {t : Tg} {e : Expr} (h : ckT sc fb N t e = true) (es : List Expr) (env : PySem.Env) : assignEach (e :: es) env = (false, assign e env) :: assignEach es env := by
  cases t <;> cases e <;> first | rfl | (simp [ckT] at h)
theorem ckTs_star {sc : Scope} {fb : Str → Bool} {N : List Str} (env : PySem.Env) : ∀ {ts : Tgs} {es : List Expr}, ckTs sc fb N ts es = true → (assignEach es env).findIdx? (·.1) = none
  | .nil, [], _ => rfl
  | .cons t ts, e :: es, h => by
    simp only [ckTs, Bool.and_eq_true] at h
    rw [ckT_star h.1, List.findIdx?_cons]
    simp [ckTs_star env h.2]
  | .nil, _ :: _, h => by simp [ckTs] at h
  | .cons _ _, [], h => by simp [ckTs] at h
theorem wipe_set {σ : L2.St} {i : Nat} {v : V} : ∀ {vs : List Nat}, i ∈ vs → L2.wipe (σ.set i (some v)) vs = L2.wipe σ vs
  | [], h => by simp at h
  | j :: vs, h => by
    have comm : ∀ vs, L2.wipe (σ.set i (some v)) vs = (if i ∈ vs then L2.wipe σ vs else (L2.wipe σ vs).set i (some v)) := by
      intro vs
      induction vs with
      | nil => simp [L2.wipe]
      | cons k vs ih =>
        unfold L2.wipe
        rw [ih]
        by_cases hk : i ∈ vs
        · simp [hk]
        · by_cases e : i = k
          · subst e
            simp [hk, List.set_set]
          · simp only [hk, if_false, List.mem_cons, e, or_self]
            exact List.set_comm _ _ e
    rw [comm, if_pos h]
theorem wipe_get {σ : L2.St} : ∀ {vs : List Nat} {i : Nat}, i ∈ vs → i < σ.length → (L2.wipe σ vs)[i]? = some none
  | j :: vs, i, h, hl => by
    unfold L2.wipe
    by_cases e : j = i
    · subst e
      rw [List.getElem?_set_self (by rw [wipe_length]; exact hl)]
    · rw [List.getElem?_set_ne e]
      exact wipe_get ((List.mem_cons.mp h).resolve_left (fun q => e q.symm)) hl
theorem wipe_other {σ : L2.St} : ∀ {vs : List Nat} {i : Nat}, i ∉ vs → (L2.wipe σ vs)[i]? = σ[i]?
  | [], _, _ => rfl
  | j :: vs, i, h => by
    unfold L2.wipe
    rw [List.getElem?_set_ne (fun e => h (by rw [e]; exact List.mem_cons_self))]
    exact wipe_other fun m => h (List.mem_cons_of_mem _ m)
theorem wipe_wipe (σ : L2.St) (vs : List Nat) : L2.wipe (L2.wipe σ vs) vs = L2.wipe σ vs := by
  apply List.ext_getElem?
  intro i
  by_cases h : i ∈ vs
  · by_cases hl : i < σ.length
    · rw [wipe_get h hl, wipe_get h (by rw [wipe_length]; exact hl)]
    · rw [List.getElem?_eq_none (by rw [wipe_length, wipe_length]; omega), List.getElem?_eq_none (by rw [wipe_length]; omega)]
  · rw [wipe_other h]
mutual
theorem okT (hK : X.K = g.K) (hc : X.calm = true) (hN : X.N.Nodup) : ∀ (t : Tg) (e : Expr), ckT X.env.scope X.fn X.N t e = true → PG X e (gE g t)
  | .nm i, .Name x _, h => by
    simp only [ckT, Bool.and_eq_true, decide_eq_true_eq] at h
    obtain ⟨h1, h2⟩ := h
    obtain ⟨h3, h4⟩ := locB_ok h2
    refine PG.imp (pg_name hN h1 h3 h4) fun v σ H Q ⟨ι, ρ, s, d, ρ', re, rs, rd, hb, q⟩ => ?_
    simp only [bindT, Option.some.injEq] at hb
    subst hb
    exact q _ (re.set i rd) fun vs hv => wipe_set (hv i (by simp [Tg.slots]))
  | .tp ts, .Tuple es _ _, h => by
    have h' : ckTs X.env.scope X.fn X.N ts es = true := by simpa [ckT] using h
    refine PG.imp (pg_tup hc (okTs hK hc hN ts es h') (each_len _ _) (ckTs_star _ h')) fun v σ H Q ⟨ι, ρ, s, d, ρ', re, rs, rd, hb, q⟩ => ?_
    cases d with
    | tup xs =>
      simp only [bindT] at hb
      split at hb
      · rename_i hl
        cases rd with
        | @tup _ a vs hq dq => exact ⟨a, vs, rfl, by rw [hK]; exact hq, by rw [← dq.length, hl, ckTs_len h'], ι, ρ, s, xs, ρ', re, rs, dq, hb, fun σ' r w => q σ' r fun vs hv => w vs fun i hi => hv i (by simpa [Tg.slots] using hi)⟩
      · cases hb
    | _ => simp [bindT] at hb
  | .nm _, .Tuple _ _ _, h => by simp [ckT] at h
  | .tp _, .Name _ _, h => by simp [ckT] at h
theorem okTs (hK : X.K = g.K) (hc : X.calm = true) (hN : X.N.Nodup) : ∀ (t : Tgs) (e : List Expr), ckTs X.env.scope X.fn X.N t e = true → PGs X e (gEs g t)
  | .nil, [], h => PGs.imp pgs_nil fun v σ H Q ⟨ι, ρ, s, ds, ρ', re, rs, rd, hb, q⟩ => by
    cases ds with
    | nil => cases rd; simp [bindTs] at hb; subst hb; exact ⟨rfl, q _ re fun _ _ => rfl⟩
    | cons _ _ => simp [bindTs] at hb
  | .cons t ts, e :: es, h => by
    simp only [ckTs, Bool.and_eq_true] at h
    refine PGs.imp (pgs_cons (okT hK hc hN t e h.1) (okTs hK hc hN ts es h.2) (by rw [ckT_star h.1]; rfl)) fun v σ H Q ⟨ι, ρ, s, ds, ρ', re, rs, rd, hb, q⟩ => ?_
    cases ds with
    | nil => simp [bindTs] at hb
    | cons d ds =>
      cases rd with
      | cons r t =>
        simp only [bindTs, Option.bind_eq_some_iff] at hb
        obtain ⟨ρ1, h1, h2⟩ := hb
        exact ⟨_, _, rfl, ι, ρ, s, d, ρ1, re, rs, r, h1, fun σ1 re1 w1 => ⟨ι, ρ1, s, ds, ρ', re1, rs, t, h2, fun σ2 re2 w2 => q σ2 re2 fun vs hv => (w2 vs fun i hi => hv i (by simp [Tgs.slots, hi])).trans (w1 vs fun i hi => hv i (by simp [Tgs.slots, hi]))⟩⟩
  | .nil, _ :: _, h => by simp [ckTs] at h
  | .cons _ _, [], h => by simp [ckTs] at h
end

/-! ### what is walked -/
/-- J walks the items, as long as their lists stand -/
def Walks (g : Glo) (ι : List Addr) (H : Hp) (I : Items) (J : L2.It) : Prop :=
  ∀ ι1 H1 s1 i, Ext ι H ι1 H1 → RS g ι1 s1 H1 → stands I.src s1 = true →
    (∀ d, I.xs[i]? = some d → J.go i H1 ∧ ∀ x H2, J.yld i H1 x H2 → Ext ι1 H1 ι1 H2 ∧ RS g ι1 s1 H2 ∧ RD g ι1 H2 d x) ∧ (I.xs.length ≤ i → J.stop i H1)
theorem Walks.shift {ι1 : List Addr} {H1 : Hp} {I : Items} {J : L2.It} (w : Walks g ι H I J) (x : Ext ι H ι1 H1) : Walks g ι1 H1 I J := fun ι2 H2 s2 i x2 => w ι2 H2 s2 i (x.trans x2)
def rlI (g : Glo) : Rl Items L2.It := ⟨fun _ ι H I J => Walks g ι H I J, fun _ _ h => h⟩
def tI (g : Glo) (W : WX) (f : Env → Sto → R Items) : TI := fun σ H R => ∃ ι ρ s, RE g ι H ρ σ ∧ RS g ι s H ∧ Wp g W (rlI g) σ ι H (f ρ s) R

/-- where the items of a value are read, as long as they stand -/
theorem src_ok {t : T} {v : V} {I : Items} (rs : RS g ι s H) (r : RT g ι H t v) (e : itemsOf t s = some I) : ∃ a, v = .ref a ∧
    ((∃ xs, t = .v (.tup xs)) → ∀ ι1 H1 s1, Ext ι H ι1 H1 → RS g ι1 s1 H1 → stands I.src s1 = true → ∃ vs, SqT g.K H1 a vs ∧ RDs g ι1 H1 I.xs vs) ∧
    ((∀ xs, t ≠ .v (.tup xs)) → ∀ ι1 H1 s1, Ext ι H ι1 H1 → RS g ι1 s1 H1 → stands I.src s1 = true → ∃ vs, SqL g.K H1 a vs ∧ RDs g ι1 H1 I.xs vs) := by
  cases r with
  | @l xs a vs h n r =>
    simp only [itemsOf, Option.some.injEq] at e
    subst e
    exact ⟨a, rfl, fun ⟨_, q⟩ => (nomatch q), fun _ ι1 H1 s1 x rs1 _ => ⟨vs, .inl (.inl (x.keep _ _ h n rfl)), r.ext rs x⟩⟩
  | @v d v r =>
    cases r with
    | @tup xs a vs h r =>
      simp only [itemsOf, Option.some.injEq] at e
      subst e
      exact ⟨a, rfl, fun _ ι1 H1 s1 x rs1 _ => ⟨vs, SqT.ext rs x h, r.ext rs x⟩, fun q => absurd rfl (q xs)⟩
    | @fro xs a vs h r =>
      simp only [itemsOf, Option.some.injEq] at e
      subst e
      exact ⟨a, rfl, fun ⟨_, q⟩ => (nomatch q), fun _ ι1 H1 s1 x rs1 _ => by
        cases RD.ext rs x (RD.fro h r) with
        | fro h' r' => exact ⟨_, h'.list, r'⟩⟩
    | @loc n a h =>
      simp only [itemsOf, Option.map_eq_some_iff] at e
      obtain ⟨xs, e1, rfl⟩ := e
      refine ⟨a, rfl, fun ⟨_, q⟩ => (nomatch q), fun _ ι1 H1 s1 x rs1 st => ?_⟩
      have st' : lstAt n s1 = some xs := by simpa [stands] using st
      obtain ⟨b, vs, eb, hq, dq⟩ := lst_ok rs1 (RT.v (RD.loc (x.get h))) (show lstOf (.v (.loc n)) s1 = some xs from st')
      cases eb
      exact ⟨vs, hq, dq⟩
    | _ => simp [itemsOf] at e
theorem walks_list {a : Addr} {I : Items} (h : ∀ ι1 H1 s1, Ext ι H ι1 H1 → RS g ι1 s1 H1 → stands I.src s1 = true → ∃ vs, SqL g.K H1 a vs ∧ RDs g ι1 H1 I.xs vs) : Walks g ι H I (Itl g.K a) := fun ι1 H1 s1 i x rs st => by
  obtain ⟨vs, hq, dq⟩ := h ι1 H1 s1 x rs st
  refine ⟨fun d hd => ?_, fun hi => ⟨vs, hq, by rw [← dq.length]; exact hi⟩⟩
  obtain ⟨w, e, rw'⟩ := dq.get hd
  refine ⟨⟨vs, w, hq, e⟩, fun y H2 ⟨e2, e3⟩ => ?_⟩
  subst e2
  have ey : y = w := by
    have z := e3 vs hq
    rw [e] at z; exact (Option.some.inj z).symm
  subst ey
  exact ⟨Ext.refl, rs, rw'⟩
theorem walks_tup {a : Addr} {I : Items} (h : ∀ ι1 H1 s1, Ext ι H ι1 H1 → RS g ι1 s1 H1 → stands I.src s1 = true → ∃ vs, SqT g.K H1 a vs ∧ RDs g ι1 H1 I.xs vs) : Walks g ι H I (Itt g.K a) := fun ι1 H1 s1 i x rs st => by
  obtain ⟨vs, hq, dq⟩ := h ι1 H1 s1 x rs st
  refine ⟨fun d hd => ?_, fun hi => ⟨vs, hq, by rw [← dq.length]; exact hi⟩⟩
  obtain ⟨w, e, rw'⟩ := dq.get hd
  refine ⟨⟨vs, w, hq, e⟩, fun y H2 ⟨e2, e3⟩ => ?_⟩
  subst e2
  have ey : y = w := by
    have z := e3 vs hq
    rw [e] at z; exact (Option.some.inj z).symm
  subst ey
  exact ⟨Ext.refl, rs, rw'⟩
theorem walks_rng {lo hi : Int} {I : Items} {n : Nat} (e : rangeD lo hi = some I) (hn : n = (hi - lo).toNat) : Walks g ι H I (Itr lo n) := fun ι1 H1 s1 i x rs st => by
  unfold rangeD at e
  split at e
  · cases e
    subst hn
    refine ⟨fun d hd => ?_, fun hend => ?_⟩
    · simp only [List.getElem?_map, Option.map_eq_some_iff] at hd
      obtain ⟨j, hj, rfl⟩ := hd
      obtain ⟨hlt, ej⟩ := List.getElem?_eq_some_iff.mp hj
      simp only [List.length_range] at hlt
      simp only [List.getElem_range] at ej
      subst ej
      refine ⟨hlt, fun y H2 ⟨e2, e3⟩ => ?_⟩
      subst e2 e3
      exact ⟨Ext.refl, rs, .int _⟩
    · rw [List.length_map, List.length_range] at hend
      exact hend
  · cases e
theorem pairs_get {xs ys : List D} {d : D} {i : Nat} (h : ((xs.zip ys).map fun p => D.tup [p.1, p.2])[i]? = some d) : ∃ x y, xs[i]? = some x ∧ ys[i]? = some y ∧ d = .tup [x, y] := by
  simp only [List.getElem?_map, Option.map_eq_some_iff] at h
  obtain ⟨⟨x, y⟩, h1, rfl⟩ := h
  obtain ⟨h2, h3⟩ := List.getElem?_zip_eq_some.mp h1
  exact ⟨x, y, h2, h3, rfl⟩
theorem pairs_len {xs ys : List D} {i : Nat} (h : ((xs.zip ys).map fun p => D.tup [p.1, p.2]).length ≤ i) : xs.length ≤ i ∨ ys.length ≤ i := by
  simp only [List.length_map, List.length_zip] at h
  omega
/-- a pair just laid -/
theorem pair_ok {p : Addr} {x y : D} {v w : V} (rs : RS g ι s H) (hp : H p = none) (r1 : RD g ι H x v) (r2 : RD g ι H y w) :
    Ext ι H ι (L2.upd H p (.tup [v, w])) ∧ RS g ι s (L2.upd H p (.tup [v, w])) ∧ RD g ι (L2.upd H p (.tup [v, w])) (.tup [x, y]) (.ref p) :=
  ⟨Ext.upd hp, rs.upd hp, .tup (.inl (.inl upd_same)) (.cons (r1.ext rs (Ext.upd hp)) (.cons (r2.ext rs (Ext.upd hp)) .nil))⟩
theorem walks_zipL {a b : Addr} {xs ys : List D} {src : List (Nat × List D)}
    (h : ∀ ι1 H1 s1, Ext ι H ι1 H1 → RS g ι1 s1 H1 → stands src s1 = true → ∃ vs ws, SqL g.K H1 a vs ∧ RDs g ι1 H1 xs vs ∧ SqL g.K H1 b ws ∧ RDs g ι1 H1 ys ws) :
    Walks g ι H ⟨(xs.zip ys).map fun p => .tup [p.1, p.2], src⟩ (Itz g.K a b) := fun ι1 H1 s1 i x rs st => by
  obtain ⟨vs, ws, h1, d1, h2, d2⟩ := h ι1 H1 s1 x rs st
  refine ⟨fun d hd => ?_, fun hi => ⟨vs, ws, h1, h2, by rw [← d1.length, ← d2.length]; exact pairs_len hi⟩⟩
  obtain ⟨x', y', g1, g2, rfl⟩ := pairs_get hd
  obtain ⟨v, e1, r1⟩ := d1.get g1
  obtain ⟨w, e2, r2⟩ := d2.get g2
  refine ⟨⟨vs, ws, v, w, h1, h2, e1, e2⟩, fun z H2 ⟨T', v', w', e3, e4, e5, e6, e7⟩ => ?_⟩
  have ev : v' = v := by
    have z := e6 vs h1
    rw [e1] at z; exact (Option.some.inj z).symm
  have ew : w' = w := by
    have z := e7 ws h2
    rw [e2] at z; exact (Option.some.inj z).symm
  subst e3 e5 ev ew
  exact pair_ok rs e4 r1 r2
theorem walks_zipT {a b : Addr} {xs ys : List D} {src : List (Nat × List D)}
    (h : ∀ ι1 H1 s1, Ext ι H ι1 H1 → RS g ι1 s1 H1 → stands src s1 = true → ∃ vs ws, SqT g.K H1 a vs ∧ RDs g ι1 H1 xs vs ∧ SqT g.K H1 b ws ∧ RDs g ι1 H1 ys ws) :
    Walks g ι H ⟨(xs.zip ys).map fun p => .tup [p.1, p.2], src⟩ (RZ.ItzT g.K a b) := fun ι1 H1 s1 i x rs st => by
  obtain ⟨vs, ws, h1, d1, h2, d2⟩ := h ι1 H1 s1 x rs st
  refine ⟨fun d hd => ?_, fun hi => ⟨vs, ws, h1, h2, by rw [← d1.length, ← d2.length]; exact pairs_len hi⟩⟩
  obtain ⟨x', y', g1, g2, rfl⟩ := pairs_get hd
  obtain ⟨v, e1, r1⟩ := d1.get g1
  obtain ⟨w, e2, r2⟩ := d2.get g2
  refine ⟨⟨vs, ws, v, w, h1, h2, e1, e2⟩, fun z H2 ⟨T', v', w', e3, e4, e5, e6, e7⟩ => ?_⟩
  have ev : v' = v := by
    have z := e6 vs h1
    rw [e1] at z; exact (Option.some.inj z).symm
  have ew : w' = w := by
    have z := e7 ws h2
    rw [e2] at z; exact (Option.some.inj z).symm
  subst e3 e5 ev ew
  exact pair_ok rs e4 r1 r2
theorem walks_enum {a : Addr} {I : Items} (h : ∀ ι1 H1 s1, Ext ι H ι1 H1 → RS g ι1 s1 H1 → stands I.src s1 = true → ∃ vs, SqL g.K H1 a vs ∧ RDs g ι1 H1 I.xs vs) :
    Walks g ι H ⟨I.xs.zipIdx.map fun p => .tup [.int (p.2 : Nat), p.1], I.src⟩ (Ite g.K a) := fun ι1 H1 s1 i x rs st => by
  obtain ⟨vs, h1, d1⟩ := h ι1 H1 s1 x rs st
  refine ⟨fun d hd => ?_, fun hi => ⟨vs, h1, by rw [← d1.length]; simpa using hi⟩⟩
  simp only [List.getElem?_map, Option.map_eq_some_iff, List.getElem?_zipIdx] at hd
  obtain ⟨⟨y, k⟩, ⟨y', g1, e0⟩, rfl⟩ := hd
  simp only [Nat.zero_add, Prod.mk.injEq] at e0
  obtain ⟨rfl, rfl⟩ := e0
  obtain ⟨w, e1, r1⟩ := d1.get g1
  refine ⟨⟨vs, w, h1, e1⟩, fun z H2 ⟨T', w', e3, e4, e5, e6⟩ => ?_⟩
  have ew : w' = w := by
    have z := e6 vs h1
    rw [e1] at z; exact (Option.some.inj z).symm
  subst e3 e5 ew
  exact pair_ok rs e4 (.int _) r1

/-- a list or a tuple, walked -/
theorem pi_seq {l tg : Expr} {tl : TE} (hl : PE X l tl) : PI X tg l (fun σ H R => tl σ H fun x H1 => ∃ a, x = .ref a ∧ (((∃ xs, SqL X.K H1 a xs) ∧ R (Itl X.K a) H1) ∨ ((∃ xs, SqT X.K H1 a xs) ∧ R (Itt X.K a) H1))) := by
  constructor
  intro pins s σ H R I h
  apply thn (hl.run pins s σ H _ I h)
  rintro v s1 ⟨x, H1, I1, r1, a, e, q⟩
  subst e
  cases r1
  have fresh : ∀ b ∈ [s1.heap.objs.size], FpOk X pins H1 b := fun b hb => by
    rw [List.mem_singleton.mp hb]
    exact I1.fpOk (Nat.le_refl _) (I1.hok.fresh (Nat.le_refl _))
  rcases q with ⟨⟨xs, hq⟩, q⟩ | ⟨⟨xs, hq⟩, q⟩
  · obtain ⟨its, rv, p, hz⟩ := I1.list hq
    apply wpAny_pyIter_list p.isList
    exact ⟨_, [s1.heap.objs.size], _, _, H1, rfl, I1.kept (t' := s1.toks) (fun b o e => Heap.get?_push_of_some _ e), turn_list a _, ⟨_, Heap.get?_push_size _ rfl, rfl, rfl⟩, fresh, q⟩
  · obtain ⟨its, rv, p, hz⟩ := I1.tuple hq
    apply wpAny_pyIter_tuple (show s1.heap.IsTuple a its.toArray from p)
    exact ⟨_, [s1.heap.objs.size], _, _, H1, rfl, I1.kept (t' := s1.toks) (fun b o e => Heap.get?_push_of_some _ e), turn_tuple a _, ⟨_, Heap.get?_push_size _ rfl, rfl, rfl⟩, fresh, q⟩
end
end Fy
end
section
set_option Elab.async false
set_option linter.all false
set_option maxRecDepth 100000
set_option maxHeartbeats 2000000
/-! Fz1: the __init__ of an own exception class: super().__init__(at); self.at = at. -/
namespace Fy
open PySem PySem.Spec PyProof.Rows L2
abbrev veI : String := "ValueError.__init__"
/-- what the written part says of such a class and of its __init__ -/
structure XcC (P : Program) (K : PySem.W.Frag) (mg : Str → Option Value) (C fI : Addr) (qual : Str) (params : Arguments) (body : List Stmt) (scope : Scope) (dV kV doc pm cdv ct : Value) (an : Option Addr) : Prop where
  oex : OexC K C
  fn : ∃ oc od osl cc, K.lookup fI = some ⟨oc, od, .func (PySem.W.ksFn "__init__" qual params body scope dV kV doc pm an cdv ct cc), osl⟩ ∧
    ∃ cl cld csl, K.lookup cc = some ⟨cl, cld, .cell (some (.ref C)), csl⟩
  code : PySem.W.codeIn K cdv qual = true
  codeO : ∃ cda ccl cdd vs ccs file tf, cdv = .ref cda ∧ K.lookup cda = some ⟨ccl, cdd, .fields vs, ccs⟩ ∧ vs[2]? = some (.str file tf) ∧ ((P.main.file : Str) == file) = true
  par : ∃ ar, (params.posonlyargs ++ params.args).head? = some ar ∧ ar.arg = "self"
  kind : scope.kind = .function
  co : scope.isCoroutine = false
  gen : scope.isGenerator = false
  cells : ∀ x ∈ scope.names, x.2 ≠ .cell
  nSelf : scope.names.lookup ("self" : Str) = some .local
  nAt : scope.names.lookup ("at" : Str) = some .local
  nSup : scope.names.lookup ("super" : Str) = some .globalImplicit
  nCls : scope.names.lookup ("__class__" : Str) = some .free
  top : (P.main.scope.names.lookup ("super" : Str)).isSome = false
  mgS : mg "super" = none
  any : PySem.W.nsIn K cStatics "thirdparty.any" = some none
  sup : PySem.W.ks_superIn K C C "__init__" = some (some (.builtin veI))
  sub : PySem.W.subIn K (.ref C) (.type "ValueError") = some true
  mro : PySem.W.mroIn K C (.ref C) = some true
  noAt : PySem.W.findIn K (.ref C) "at" = some none
  text : ∃ (p1 p2 p3 p4 p5 p6 p7 p8 p9 p10 : Pos), (∀ q L f cd cc, ∃ pl : Sem Bool, eval (.Call (.Attribute (.Call (.Name "super" p1) [] [] p2) "__init__" p3) [.Name "at" p4] [] p5) (PySem.W.ksEnv q scope L f cd cc) = (do
      let ov ← attributeBase (.Call (.Name "super" p1) [] [] p2) "__init__" (PySem.W.ksEnv q scope L f cd cc) (eval (.Call (.Name "super" p1) [] [] p2) (PySem.W.ksEnv q scope L f cd cc))
      standAt p3.atName
      let (m, first) ← holding [ov] (getMethod ov "__init__" pl)
      callWith p5 m first (backTo p5 (starEach [.Name "at" p4] (PySem.W.ksEnv q scope L f cd cc))) [])) ∧ body = [.Expr (.Call (.Attribute (.Call (.Name "super" p1) [] [] p2) "__init__" p3) [.Name "at" p4] [] p5) p6, .Assign [.Attribute (.Name "self" p7) "at" p8] (.Name "at" p9) p10]
/-- what it does -/
def spXI (C : Addr) : Sp := fun vs H Q _ => ∃ a y, vs = [.ref a, y] ∧ H a = some (exo a C none) ∧ ∀ dx, H dx = none → dx ≠ a → Q .non (upd (upd H dx (exd dx [("at", y)])) a (exo a C (some dx)))
section
variable {P : Program} {w : World} {K : PySem.W.Frag} {mg : Str → Option Value} {base : Heap} {C fI : Addr} {qual : Str} {params : Arguments} {body : List Stmt} {scope : Scope} {dV kV doc pm cdv ct : Value} {an : Option Addr}
theorem veFacts : PySem.W.KxsFacts "ValueError" veI := PySem.W.kxs_ValueError
/-- the wrapper of ValueError.__init__ called -/
theorem call_wrap {A : Around} {E : Value → Shared → Prop} {s : Shared} {u e t0 : Addr} {rest : List Value} {Q : Value → Shared → Prop} (T : OexC K C) (X : K.In s.heap)
    (hu : s.heap.get? u = some (PySem.W.kxs_mw veI e)) (he : s.heap.get? e = some (PySem.HandSPX.excO C t0)) (hl : rest.length ≤ sizeLine)
    (hq : ∀ h' t1, (∀ b o, b ≠ e → s.heap.get? b = some o → h'.get? b = some o) → h'.get? e = some (PySem.HandSPX.excO C t1) → Q .none { s with heap := h' }) : wpAny (model P w) A (call (.ref u) rest) Q E s := by
  obtain ⟨nm, q, N, bs, bm, sn, sub, ab, col, dd, k0, k1, k2, k3, k5, hC, hbm⟩ := T.cls
  have hC := X _ _ hC
  obtain ⟨h, g, d, t, os⟩ := s
  refine wpAny_call (codeAny_of_tree ?_)
  show wpAny _ A.in1 (callAny (.ref u) ⟨rest, []⟩) _ _ _
  simp only [callAny]
  refine wpAny_bind (wpAny_load hu ?_)
  have em : (Value.type "method-wrapper" == Value.type "method" || Value.type "method-wrapper" == Value.type "builtin_function_or_method" || Value.type "method-wrapper" == Value.type "method-wrapper") = true := by decide
  simp only [PySem.W.kxs_mw, em, if_true]
  refine PySem.W.KFB.if_so (by decide) ?_
  refine wpAny_bind (PySem.W.check_bound_init PySem.F.excBase_ValueError.toExcCallFacts hC he rfl ?_)
  refine wpAny_bind (wpAny_pure (wpAny_pure ?_))
  refine ⟨Code.quiet_builtin _ (by decide +kernel), codeAny_builtin PySem.F.excBase_ValueError.initEntry ?_⟩
  rw [Around.under_plainId PySem.F.excBase_ValueError.init.plain _]
  wp_walk
  refine hq _ h.objs.size (fun b o hb ho => ?_) ?_
  · rw [Heap.get?_update_other _ _ (Ne.symm hb)]
    exact Heap.get?_push_of_some _ ho
  · rw [Heap.get?_update_self _ (Heap.get?_push_of_some _ he) rfl]
    rfl
theorem xc_init {k : Nat} (T : XcC P K mg C fI qual params body scope dV kV doc pm cdv ct an) :
    ∃ fd, (∃ oc od osl, K.lookup fI = some ⟨oc, od, .func fd, osl⟩) ∧ (∃ cc, fd = PySem.W.ksFn "__init__" qual params body scope dV kV doc pm an cdv ct cc) ∧ FnOk P w K mg base (L2.CX P w) (k + 1) fI fd ["self", "at"] (spXI C) := by
  obtain ⟨oc, od, osl, cc, lk, cl, cld, csl, lcell⟩ := T.fn
  refine ⟨_, ⟨oc, od, osl, lk⟩, ⟨cc, rfl⟩, fun vs H Q E ⟨a, y, e, _⟩ => by rw [e]; rfl, fun A outer s H args us vs Q E hr e0 hb r hsp => ?_⟩
  obtain ⟨a, y, rfl, ha, hq⟩ := hsp
  cases r with
  | @cons _ u0 _ ur ra rw' =>
  cases rw' with
  | @cons _ u1 _ ur ry rw' =>
  cases rw'
  obtain rfl : u0 = Value.ref a := ra
  have KX : K.In s.heap := e0.mod.kin.keeps fun b o e => (e0.bs b o e).1
  have lim : s.heap.NoLimit := e0.mod.nolimit.keeps fun b o e => (e0.bs b o e).1
  obtain ⟨t1, ho⟩ := exo_at e0.hok ha
  obtain ⟨nm, q, N, bs, bm, sn, sub, ab, col, dd, k0, k1, k2, k3, k5, hC, hbm⟩ := T.oex.cls
  have hcl : PySem.W.clsIn K C = some { name := nm, bases := bs, mro := .ref C :: bm, ns := N, qualname := q, hasDict := true, slotNames := sn, subclasses := sub, abstract := ab, collection := col, hasDel := false } := by unfold PySem.W.clsIn; rw [hC] <;> rfl
  obtain ⟨cda, ccl, cdd, cvs, ccs, file, tf, rfl, lcode, hvs, hfile⟩ := T.codeO
  obtain ⟨ar, hpar, har⟩ := T.par
  obtain ⟨p1, p2, p3, p4, p5, p6, p7, p8, p9, p10, hev, rfl⟩ := T.text
  refine PySem.ks_codeAny_call_defAt (binds := [("self", .ref a), ("at", u1)]) hr.depth (KX _ _ lk) rfl lim (PySem.W.codeRec_of KX T.code) rfl hb T.cells (fun x hx => ?_) (fun h0 hns hk => ?_) T.co T.gen T.kind
  · simp only [List.mem_cons, List.not_mem_nil, or_false] at hx
    rcases hx with rfl | rfl
    · exact T.nSelf
    · exact T.nAt
  have K0 : K.In h0 := KX.keeps hk
  have ho0 := hk _ _ ho
  have aL : a ≠ s.heap.objs.size := Nat.ne_of_lt (Heap.lt_size ho)
  obtain ⟨pl, hev⟩ := hev qual s.heap.objs.size fI (.ref cda) cc
  have sw : ∀ tg, swapsWith (.Name "at" p9) tg p10.line (PySem.W.ksEnv qual scope s.heap.objs.size fI (.ref cda) cc) = pure false := fun _ => rfl
  refine PySem.ks_wpAt_execs_cons (PySem.ks_wpAt_Expr_any (PySem.ks_wpAt_MethodCall ?_ hev) ?_ ?_)
  · refine PySem.ks_wpAt_super_base (of := ⟨oc, od, _, osl⟩) (oc := ⟨ccl, cdd, _, ccs⟩) T.nSup T.nCls (by decide) rfl (K0 _ _ lk) rfl hpar rfl (K0 _ _ lcode) rfl hvs hfile T.top ?_
    have kb : ∀ b o, base.get? b = some o → h0.get? b = some o := fun b o e => hk _ _ (e0.bs b o e).1
    obtain ⟨mb, hm1, hm2⟩ := e0.mod.blt
    refine PySem.W.ks_loadName_global T.kind T.nSup (Calls.loadGlobal_builtin (e0.mod.glob.keeps kb) T.mgS (hm1.keeps kb) ((hm2 _ (by decide)).trans (by kernel_rfl : bootBuiltins "super" = some (.type "super"))) ⟨rfl, ?_⟩)
    refine wpAny_loadName_free T.kind T.nCls rfl ⟨_, K0 _ _ lcell, rfl⟩ ?_
    rw [har]
    refine wpAny_loadName_local T.kind T.nSelf hns rfl ?_
    have hCo := K0 _ _ hC
    refine PySem.ks_wpAny_isType_cls hCo rfl ⟨rfl, ?_⟩
    refine PySem.ks_wpAny_call_super hCo rfl ho0 rfl (fun c e => nomatch e) (PySem.W.looks_mroIn K0 T.mro) (fun h1 hso k1 => ?_)
    have K1 : K.In h1 := K0.keeps k1
    have ha1 := k1 _ _ ho0
    have J1 : PySem.W.InstAt h1 a { cls := .ref C, data := .fields #[.ref t1, .none, .none, .none, .bool false, .none] } C none := ⟨ha1, rfl, rfl, trivial⟩
    have hsup : PySem.W.alongIn K "__init__" (((Value.ref C :: bm).dropWhile (· != .ref C)).drop 1) = some (some (.builtin veI)) := by
      have z := T.sup
      unfold PySem.W.ks_superIn at z
      rw [hcl] at z
      exact z
    have aC : a ≠ C := PySem.W.ks_ne K1 J1 hcl
    refine PySem.W.kxs_getMethod veFacts hso (PySem.W.looks_opaque K1 T.any) (l₀ := .ref C :: bm) ((PySem.W.looks_clsIn K1 hcl).andThen .now) rfl K1 hsup (J1.type.andThen (PySem.W.looks_subIn K1 T.sub)) aC (by decide) ?_
    have k2 : ∀ b o, h1.get? b = some o → (h1.push (PySem.W.kxs_mw veI a)).get? b = some o := fun b o e => Heap.get?_push_of_some _ e
    have hu : (h1.push (PySem.W.kxs_mw veI a)).get? h1.objs.size = some (PySem.W.kxs_mw veI a) := Heap.get?_push_at rfl rfl
    have hLL : ∃ oL, h0.get? s.heap.objs.size = some oL := by
      obtain ⟨oL, _, _, e, _⟩ := hns
      exact ⟨oL, e⟩
    obtain ⟨oL, hLL⟩ := hLL
    have N1 : News s.heap s.heap.objs.size (h1.push (PySem.W.kxs_mw veI a)) [(h1.objs.size, PySem.W.kxs_mw veI a)] := by
      intro p hp
      simp only [List.mem_cons, List.not_mem_nil, or_false] at hp
      subst hp
      refine ⟨hu, fun z => ?_, ?_⟩
      · have y1 := Heap.lt_size (k1 _ _ hLL)
        rw [show h1.objs.size = s.heap.objs.size from z] at y1
        exact absurd y1 (Nat.lt_irrefl _)
      · cases z : s.heap.get? h1.objs.size with
        | none => rfl
        | some o => exact absurd (Heap.lt_size (k1 _ _ (hk _ _ z))) (Nat.lt_irrefl _)
    refine PySem.W.kxs_callWith1 N1 (.head _) ?_
    refine PyProof.Rows.spliced_more ?_
    have k3 : ∀ b o, h0.get? b = some o → (h1.push (PySem.W.kxs_mw veI a)).get? b = some o := fun b o e => k2 _ _ (k1 _ _ e)
    have hns3 := hns.keeps k3
    refine wpAny_Name (wpAny_loadName_local T.kind T.nAt hns3 rfl ?_) (by decide)
    refine PyProof.Rows.spliced_none ⟨hu, ?_⟩
    refine call_wrap T.oex (K0.keeps k3) hu (k3 _ _ ho0) (by rw [sizeLine_eq]; exact (by decide : (1 : Nat) ≤ 16777216)) fun h4 t4 k4 ha4 => ?_
    -- behind super().__init__(at)
    have k40 : ∀ b o, b ≠ a → h0.get? b = some o → h4.get? b = some o := fun b o hb e => k4 b o hb (k3 _ _ e)
    refine PySem.ks_wpAt_execs_cons (wpAt_of_wpAny (plainObj_wpAny_Assign_Attribute ?_ (sw _)))
    have ns4 := hns3.at fun o e => k4 _ o aL.symm e
    refine wpAny_Name (wpAny_loadName_local T.kind T.nAt ns4 rfl ?_) (by decide)
    refine wpAny_Name (wpAny_loadName_local T.kind T.nSelf ns4 rfl ?_) (by decide)
    have aK : ∀ o, K.lookup a ≠ some o := fun o e => by
      have z := e0.bs a o (e0.mod.kin _ _ e)
      rw [ha] at z
      exact absurd z.2 (by simp)
    have K4 : K.In h4 := fun b o e => k40 b o (fun z => aK o (z ▸ e)) (K0 _ _ e)
    refine PySem.W.set_plain K4 (ox := PySem.HandSPX.excO C t4) (od := none) ⟨ha4, rfl, rfl, trivial⟩ T.oex.sa ?_
    refine PySem.HandSPX.exc_osa K4 ha4 hcl (show PySem.HandSPX.refsVE (.ref C :: bm) = true from hbm) rfl T.noAt (fun h5 tk5 dx k5 dn dne hx5 hn5 => ?_)
    refine wpAt_of_wpAny (wpAny_execs_nil ?_)
    have kk : ∀ b o, b ≠ a → s.heap.get? b = some o → h5.get? b = some o := fun b o hb e => k5 b o hb (k40 b o hb (hk _ _ e))
    have lts : ∀ {b : Addr} {o : Obj}, s.heap.get? b = some o → b < dx := fun {b o} e => by
      by_cases hb : b = a
      · rw [hb]
        exact Nat.lt_of_lt_of_le (Heap.lt_size ha4) dn
      · exact Nat.lt_of_lt_of_le (Heap.lt_size (k40 b o hb (hk _ _ e))) dn
    have hnd : H dx = none := by
      cases z : H dx with
      | none => rfl
      | some u =>
        obtain ⟨ob, z1⟩ := objOk_get (e0.hok dx u z)
        exact absurd (lts z1) (Nat.lt_irrefl _)
    have na : ∀ {b : Addr}, H b = none → b ≠ a := fun {b} n z => by
      rw [z, ha] at n
      cases n
    refine ⟨.non, upd (upd H dx (exd dx [("at", y)])) a (exo a C (some dx)), rfl, e0.bare, ?_, fun b o q => ?_, rfl, hq dx hnd dne⟩
    · exact {
        keep := fun b o q n _ _ => kk b o (na n) q
        slot := fun b o q n _ _ => ⟨o.slots, kk b o (na n) q⟩
        free := fun b o q n _ => by rw [upd_ne (na n), upd_ne (Nat.ne_of_lt (lts q))]; exact n
        there := fun b o q _ => by
          by_cases hb : b = a
          · exact ⟨_, by rw [hb]; exact hx5⟩
          · exact ⟨o, kk b o hb q⟩
        tups := fun b xs q => by rw [upd_ne (at_ne ha q exo_tup), upd_ne (ne_of_none q hnd)]; exact q
        frzs := fun b o v q => by rw [upd_ne (at_ne ha q exo_frz), upd_ne (ne_of_none q hnd)]; exact q
        tbls := fun b ps q => ⟨#[], by rw [upd_ne (at_ne ha q exo_tbl), upd_ne (ne_of_none q hnd), q]; simp⟩ }
    · by_cases hb : b = a
      · subst hb
        rw [upd_same] at q
        cases q
        exact exo_ok hx5
      · rw [upd_ne hb] at q
        by_cases hd : b = dx
        · subst hd
          rw [upd_same] at q
          cases q
          exact exd_ok hn5 (relO_put (fs := []) ry fun g => True.intro)
        · rw [upd_ne hd] at q
          exact (e0.hok b o q).stay (fun c v hc z => kk c v (by
              rcases hc with hc | hc
              · rw [hc]; exact hb
              · exact at_ne ha hc exo_own) z)
            (fun c hc => by rw [upd_ne (at_ne ha hc exo_own), upd_ne (ne_of_none hc hnd)]; exact hc) fun c xs hc => by rw [upd_ne (at_ne ha hc exo_tup), upd_ne (ne_of_none hc hnd)]; exact hc
  · show ((scope.kind == .module) && _) = false
    rw [T.kind]
    rfl
  · rfl
end
end Fy
end
section
set_option Elab.async false
set_option linter.all false
set_option maxRecDepth 100000
set_option maxHeartbeats 1000000
/-! Fz0: what is needed ahead: defs that tell what they heard, makers of lambdas. -/
namespace Fy
open PySem PySem.Spec PyProof.Rows L2 LamX
/-- a def that tells what it heard -/
structure HdOk (g : Glo) (mg : Str → Option Value) (x c : Str) : Prop where
  ok : ∃ (fa CS : Addr) (pg : Arguments) (sg : Scope) (dV kV doc pm cdv ct oc : Value) (an od : Option Addr) (osl : Array (Option Value)) (Ng : List Str) (a n : Str) (i j : Nat) (p1 p2 p3 p4 p5 p6 p7 p8 p9 p10 p11 : Pos),
    mg x = some (.ref fa) ∧ PySem.W.keepIn g.K (.ref fa) = true ∧
    g.K.lookup fa = some ⟨oc, od, .func (PySem.W.fnOf x x pg [.Try [.Expr (.Call (.Name a p1) [] [] p2) p3, .Return (some (.Constant .none j p4)) p5] [.ExceptHandler (some (.Name c p6)) (some n) [.Return (some (.Attribute (.Name n p7) "at" p8)) p9] p10] [] [] p11] sg dV kV doc pm an cdv ct), osl⟩ ∧
    PySem.W.codeIn g.K cdv x = true ∧ L2.Binds g.K (PySem.W.fnOf x x pg [.Try [.Expr (.Call (.Name a p1) [] [] p2) p3, .Return (some (.Constant .none j p4)) p5] [.ExceptHandler (some (.Name c p6)) (some n) [.Return (some (.Attribute (.Name n p7) "at" p8)) p9] p10] [] [] p11] sg dV kV doc pm an cdv ct) [a] [] ∧
    FnScope Ng [a] sg ∧ Ng[0]? = some a ∧ Vis sg a ∧ Ng[i]? = some n ∧ sg.names.lookup n = some .local ∧ sg.names.lookup c = some .globalImplicit ∧ mg c = some (.ref CS) ∧ g.ga c = CS ∧ XfC g.K CS ∧ PySem.W.findIn g.K (.ref CS) "at" = some none ∧
    (c == ("__debug__" : Str)) = false ∧ (n == ("__debug__" : Str)) = false ∧ (n == ("__classdict__" : Str)) = false ∧ (a == ("__debug__" : Str)) = false ∧ (a == ("__classdict__" : Str)) = false ∧ (x == ("__debug__" : Str)) = false ∧
    PySem.W.exmOne g.K (.ref CS) (.ref CS) = some true ∧ ∀ f : Addr, (L2.start Ng [V.ref f])[0]? = some (some (V.ref f))
/-- the text of a def that tells what it heard, in two words for two sorts -/
def h2Body (a n c d oth non : Str) (j1 j2 : Nat) (p : Nat → Pos) : List Stmt :=
  [.Try [.Expr (.Call (.Name a (p 1)) [] [] (p 2)) (p 3)] [.ExceptHandler (some (.Name c (p 4))) (some n) [.Return (some (.IfExp (.Call (.Name "isinstance" (p 5)) [.Name n (p 6), .Name d (p 7)] [] (p 8)) (.Attribute (.Name n (p 9)) "at" (p 10)) (.Constant (.str oth) j1 (p 11)) (p 12))) (p 13)] (p 14)] [] [] (p 15),
    .Return (some (.Constant (.str non) j2 (p 16))) (p 17)]
/-- its places -/
def h2P (b : List Stmt) : Nat → Pos :=
  match b with
  | [.Try [.Expr (.Call (.Name _ p1) [] [] p2) p3] [.ExceptHandler (some (.Name _ p4)) (some _) [.Return (some (.IfExp (.Call (.Name _ p5) [.Name _ p6, .Name _ p7] [] p8) (.Attribute (.Name _ p9) _ p10) (.Constant _ _ p11) p12)) p13] p14] [] [] p15, .Return (some (.Constant _ _ p16)) p17] =>
    fun n => match n with
      | 1 => p1 | 2 => p2 | 3 => p3 | 4 => p4 | 5 => p5 | 6 => p6 | 7 => p7 | 8 => p8 | 9 => p9 | 10 => p10 | 11 => p11 | 12 => p12 | 13 => p13 | 14 => p14 | 15 => p15 | 16 => p16 | _ => p17
  | _ => fun _ => ⟨0, 0, 0, 0⟩
structure Hd2Ok (g : Glo) (mg : Str → Option Value) (x d : Str) : Prop where
  ok : ∃ (fa CF CS : Addr) (pg : Arguments) (sg : Scope) (dV kV doc pm cdv ct oc : Value) (an od : Option Addr) (osl : Array (Option Value)) (Ng : List Str) (a n c : Str) (i j1 j2 : Nat) (p : Nat → Pos),
    mg x = some (.ref fa) ∧ PySem.W.keepIn g.K (.ref fa) = true ∧
    g.K.lookup fa = some ⟨oc, od, .func (PySem.W.fnOf x x pg (h2Body a n c d "other" "none" j1 j2 p) sg dV kV doc pm an cdv ct), osl⟩ ∧
    PySem.W.codeIn g.K cdv x = true ∧ L2.Binds g.K (PySem.W.fnOf x x pg (h2Body a n c d "other" "none" j1 j2 p) sg dV kV doc pm an cdv ct) [a] [] ∧
    FnScope Ng [a] sg ∧ Ng[0]? = some a ∧ Vis sg a ∧ Ng[i]? = some n ∧ sg.names.lookup n = some .local ∧ sg.names.lookup c = some .globalImplicit ∧ mg c = some (.ref CF) ∧
    sg.names.lookup d = some .globalImplicit ∧ mg d = some (.ref CS) ∧ g.ga d = CS ∧ sg.names.lookup ("isinstance" : Str) = some .globalImplicit ∧ mg "isinstance" = none ∧ XfC g.K CS ∧ ExcC g.K CS ∧ PySem.W.findIn g.K (.ref CS) "at" = some none ∧
    (c == ("__debug__" : Str)) = false ∧ (d == ("__debug__" : Str)) = false ∧ (n == ("__debug__" : Str)) = false ∧ (n == ("__classdict__" : Str)) = false ∧ (a == ("__debug__" : Str)) = false ∧ (a == ("__classdict__" : Str)) = false ∧ (x == ("__debug__" : Str)) = false ∧
    PySem.W.exmOne g.K (.ref CS) (.ref CF) = some true ∧ PySem.W.kitOne g.K (.ref CS) (.ref CS) = some true ∧ ∀ f : Addr, (L2.start Ng [V.ref f])[0]? = some (some (V.ref f))
/-- what the maker of a lambda has -/
structure Deep (g : Glo) (k : Nat) (X : Cx) : Prop where
  room : Room (4 * k + 6) X.A
  stk : X.stack = X.env :: X.outer
  frm : X.env.frame = some X.env.locals
  tab : ∃ c P, TabB X.base X.mg c P ∧ X.env.code = .ref c ∧ (P, X.env.qual ++ "<lambda>") ∈ g.T ∧ ∀ p ∈ g.T, p.1 = P → p.2 = X.env.qual ++ "<lambda>"
def noPar : Arguments → Bool
  | ⟨[], [], none, [], [], none, []⟩ => true
  | _ => false
end Fy
end
section
set_option Elab.async false
set_option linter.all false
set_option maxRecDepth 100000
set_option maxHeartbeats 1000000
/-! Fy7: what the evaluator tells of an expression is what the text does. -/
namespace Fy
open PySem PySem.Spec PyProof.Rows L2

def biName : Bi → Str
  | .len => "len"
  | .int => "int"
  | .abs => "abs"
  | .isinst => "isinstance"
  | .all => "all"
  | .any => "any"
  | .tuple => "tuple"
  | .list => "list"
  | .min => "min"
  | .max => "max"
  | .sum => "sum"
  | .sorted => "sorted"
theorem biBoot : ∀ f, bootBuiltins (biName f) = some (biOf f) := by
  intro f
  cases f <;> decide +kernel
/-- the classes that are named -/
def tyNames : List (Str × String) := [("int", "int"), ("bool", "bool"), ("str", "str"), ("tuple", "tuple"), ("list", "list"), ("dict", "dict")]
theorem tyBoot : ∀ p ∈ tyNames, bootBuiltins p.1 = some (.type p.2) := by decide +kernel
theorem tyNot : ∀ p ∈ tyNames, p.1 ≠ "__name__" ∧ (p.1 == ("__debug__" : Str)) = false := by decide +kernel

/-- what a call of a def is worth -/
def spF (g : Glo) (tb : Tab) (wf k : Nat) (f : Str) (np : Nat) : Sp := fun vs H Q E => ∃ ι s ds, RS g ι s H ∧ RDs g ι H ds vs ∧ vs.length = np ∧
  Wp g (fun c d _ H => E c d H) (rlT g) [] ι H (run tb wf k f ds s) Q

/-- where a def of the text stands: a name of the top, or the __init__ of a class -/
def Placed (g : Glo) (tb : Tab) (mg : Str → Option Value) (f : Str) (fa : Addr) : Prop :=
  match tb.mt f with
  | none => mg f = some (.ref fa) ∧ PySem.W.keepIn g.K (.ref fa) = true
  | some c => ∃ C, mg c = some (.ref C) ∧ g.ga c = C ∧ Mk g.K C fa ∧ Cls g.K C
/-- a def of the text, ready to be called -/
structure CallOk (g : Glo) (P : Program) (w : World) (mg : Str → Option Value) (base : Heap) (tb : Tab) (wf k : Nat) (f : Str) (d : Fn) : Prop where
  ok : ∃ (fa : Addr) (fd : FuncData) (ps : List Str), FnOk P w g.K mg base (L2.CX P w) (4 * k + 3) fa fd ps (spF g tb wf k f d.np) ∧ ps.length = d.np ∧ Placed g tb mg f fa ∧
    ∀ n, n ≤ d.np → d.np - n ≤ d.dv.length → ∃ ds dvs, Binds g.K fd ps ds ∧ Vals dvs ds ∧ ∀ ι H, RDs g ι H (d.dv.drop (d.dv.length + n - d.np)) dvs

/-- an own exception class, ready to be raised -/
structure XcOk (g : Glo) (P : Program) (w : World) (mg : Str → Option Value) (base : Heap) (c : Str) : Prop where
  ok : ∃ (C fI : Addr) (fd : FuncData), mg c = some (.ref C) ∧ g.ga c = C ∧ OexC g.K C ∧ PySem.W.findIn g.K (.ref C) "__init__" = some (some (.ref fI)) ∧ PySem.W.typeIn g.K (.ref fI) = some (.type "function") ∧
    FnOk P w g.K mg base (L2.CX P w) 1 fI fd ["self", "at"] (spXI C) ∧ Binds g.K fd ["self", "at"] []
/-- where one stands -/
structure CtxA (g : Glo) (tb : Tab) (wf k : Nat) (W : WX) (X : Cx) : Prop where
  hK : X.K = g.K
  calm : X.calm = true
  nd : X.N.Nodup
  kind : X.env.scope.kind = .function
  po : PassesOwn (model X.prog X.w) X.A X.env X.xe
  room : Room (4 * k + 4) X.A
  mgB : ∀ f, X.mg (biName f) = none
  mgI : X.mg "range" = none ∧ X.mg "zip" = none ∧ X.mg "enumerate" = none
  mgS : X.mg "set" = none
  mgT : ∀ p ∈ tyNames, X.mg p.1 = none
  tk : Takes X W
  deep : tb.lam = true → Deep g k X
  hds : ∀ x c, tb.hd x = some c → HdOk g X.mg x c
  hds2 : ∀ x c, tb.hd2 x = some c → Hd2Ok g X.mg x c
  xcs : ∀ c, tb.xc c = true → XcOk g X.prog X.w X.mg X.base c
  con : ∀ x d, tb.cs x = some d → ∃ u v, X.mg x = some u ∧ RelV v u ∧ ∀ ι H, RD g ι H d v
  nfs : ∀ c f, tb.nf c f = true → NoAttr g.K (g.ga c) f
  calls : ∀ f d, tb f = some d → CallOk g X.prog X.w X.mg X.base tb wf k f d

abbrev noW : WX := fun _ _ _ _ => False
section
variable {g : Glo} {tb : Tab} {wf k : Nat} {W : WX} {X : Cx}
theorem CallOk.off {P : Program} {w : World} {mg : Str → Option Value} {base : Heap} {f : Str} {d : Fn} (h : CallOk g P w mg base tb wf k f d) : CallOk g P w mg base tb.off wf k f d := by
  obtain ⟨fa, fd, ps, F, r⟩ := h.ok
  exact ⟨fa, fd, ps, F.imp fun vs H Q E ⟨ι, s, ds, a, b, c, e⟩ => ⟨ι, s, ds, a, b, c, by rw [← run_off]; exact e⟩, r⟩
theorem CtxA.blk (c : CtxA g tb wf k W X) (s : Shared) (H : Hp) (scope : Scope) (C : Addr) (cl : List (Str × Addr)) (fp : List Addr) (hk : scope.kind = .function) : CtxA g tb.off wf k noW (X.blk s H scope (compEnvC scope cl C X.env) fp) :=
  ⟨c.hK, c.calm, c.nd, hk, fun _ _ z => z.elim, c.room, c.mgB, c.mgI, c.mgS, c.mgT, fun u s' x => by
    obtain ⟨_, _, _, _, _, _, _, _, _, _, _, _, _, _, _, _, w⟩ := x
    exact w, (fun z => by cases z), c.hds, c.hds2, c.xcs, c.con, c.nfs, fun f d h => (c.calls f d h).off⟩
theorem CtxA.lamb (c : CtxA g tb wf k W X) {A : Around} {outer : List PySem.Env} {s : Shared} {H : Hp} {E : XK} {scope : Scope} {f c' : Addr} (hk : scope.kind = .function) (hr : Room (4 * k + 4) (A.deeper (LamX.lamEnv X scope s.heap.objs.size f c'))) :
    CtxA g tb.off wf k (fun c d _ H => E c d H) (LamX.lamCx X A outer s H E scope f c') :=
  ⟨c.hK, rfl, c.nd, hk, passes_of rfl, hr, c.mgB, c.mgI, c.mgS, c.mgT, takes_of rfl rfl rfl rfl, (fun z => by cases z), c.hds, c.hds2, c.xcs, c.con, c.nfs, fun f d h => (c.calls f d h).off⟩

/-! ### the checker: that a piece of the text is what the IR says -/
def opB : Bop → Operator → Bool
  | .add, .Add => true
  | .sub, .Sub => true
  | .mul, .Mult => true
  | .fdiv, .FloorDiv => true
  | .mod, .Mod => true
  | .pow, .Pow => true
  | _, _ => false
theorem opB_ok {a : Bop} {b : Operator} (h : opB a b = true) : b = opOf a := by
  cases a <;> cases b <;> first | rfl | (simp [opB] at h)
def cmpB : Cop → CmpOp → Bool
  | .eq, .Eq => true
  | .ne, .NotEq => true
  | .lt, .Lt => true
  | .le, .LtE => true
  | .gt, .Gt => true
  | .ge, .GtE => true
  | .is, .Is => true
  | .isnot, .IsNot => true
  | .inn, .In => true
  | .notin, .NotIn => true
  | _, _ => false
theorem cmpB_ok {a : Cop} {b : CmpOp} (h : cmpB a b = true) : b = cmpOf a := by
  cases a <;> cases b <;> first | rfl | (simp [cmpB] at h)
def notStar : Expr → Bool
  | .Starred _ _ => false
  | .Slice _ _ _ _ => false
  | .Set _ _ _ => false
  | _ => true
def lmName : Lm → Str
  | .ext => "extend"
  | .pop => "pop"
  | .idx => "index"
def baseE : Expr → Bool
  | .Call .. => false
  | _ => true
def vMeth : Expr → Option (Expr × Str × Pos × List Expr × Pos)
  | .Call (.Attribute x n ap) ys [] cp => some (x, n, ap, ys, cp)
  | _ => none
theorem vMeth_some {e : Expr} {r : Expr × Str × Pos × List Expr × Pos} (h : vMeth e = some r) : e = .Call (.Attribute r.1 r.2.1 r.2.2.1) r.2.2.2.1 [] r.2.2.2.2 := by
  unfold vMeth at h
  split at h
  · cases h; rfl
  · cases h
def meA (m : Lm) (ys : List Expr) : Bool :=
  match m with
  | .pop => ys.isEmpty
  | _ => ys.length == 1
def vLamC : Expr → Option (Str × Pos × Arguments × Expr × Scope × Pos × Pos)
  | .Call (.Name x p) [.Lambda params body scope lpos] [] pos => some (x, p, params, body, scope, lpos, pos)
  | _ => none
theorem vLamC_some {e : Expr} {r : Str × Pos × Arguments × Expr × Scope × Pos × Pos} (h : vLamC e = some r) : e = .Call (.Name r.1 r.2.1) [.Lambda r.2.2.1 r.2.2.2.1 r.2.2.2.2.1 r.2.2.2.2.2.1] [] r.2.2.2.2.2.2 := by
  unfold vLamC at h
  split at h
  · cases h; rfl
  · cases h
def okNm (x : Str) : Bool := !(x == ("__debug__" : Str)) && !(x == ("__classdict__" : Str))
def fbOf (scope : Scope) : Str → Bool := fun x => scope.names.lookup x == some .cell
def arB (tb : Tab) (f : Str) (n : Nat) : Bool :=
  match tb f with
  | some d => (tb.mt f).isNone && (decide (n ≤ d.np) && decide (d.np - n ≤ d.dv.length))
  | none => false
/-- .. of a class; n arguments -/
def arM (tb : Tab) (c f : Str) (n : Nat) : Bool :=
  match tb f with
  | some d => decide (tb.mt f = some c) && decide (n + 1 = d.np)
  | none => false
/-- the classes of an isinstance -/
def ckTys (sc : Scope) : List (Str × String) → List Expr → Bool
  | [], [] => true
  | c :: ts, .Name x _ :: xs => decide (c.1 = x) && glB sc x && decide ((x, c.2) ∈ tyNames) && decide (c.2 ∈ kinds) && ckTys sc ts xs
  | _, _ => false
def vTupP : Expr → Option (List Expr × Nat × Pos)
  | .Tuple es n p => some (es, n, p)
  | _ => none
theorem vTupP_some {e : Expr} {r : List Expr × Nat × Pos} (h : vTupP e = some r) : e = .Tuple r.1 r.2.1 r.2.2 := by
  unfold vTupP at h
  split at h
  · cases h; rfl
  · cases h
mutual
def ckE (tb : Tab) (sc : Scope) (fb : Str → Bool) (N : List Str) : E → Expr → Bool
  | .var i, .Name x _ => decide (N[i]? = some x) && visB sc x && okNm x
  | .int n, .Constant (.int m) _ _ => decide (n = m)
  | .bl b, .Constant (.bool c) _ _ => b == c
  | .non, .Constant .none _ _ => true
  | .str x, .Constant (.str y) _ _ => decide (x = y)
  | .tyn x t, .Name y _ => decide (x = y) && glB sc y && decide ((x, t) ∈ tyNames)
  | .con x d, .Name y _ => decide (x = y) && glB sc y && okNm y && decide (tb.cs x = some d)
  | .bin op a b, .BinOp x o y _ => opB op o && ckE tb sc fb N a x && ckE tb sc fb N b y
  | .neg a, .UnaryOp .USub x _ => ckE tb sc fb N a x
  | .cmp op a b, .Compare x [o] [y] _ => cmpB op o && ckE tb sc fb N a x && ckE tb sc fb N b y
  | .chain op op' a b c, .Compare x [o, o'] [y, z] _ => cmpB op o && cmpB op' o' && ckE tb sc fb N a x && ckE tb sc fb N b y && ckE tb sc fb N c z
  | .and2 a b, .BoolOp .And (x :: y :: r) p => ckE tb sc fb N a x && (match r with | [] => ckE tb sc fb N b y | _ => ckE tb sc fb N b (.BoolOp .And (y :: r) p))
  | .or2 a b, .BoolOp .Or (x :: y :: r) p => ckE tb sc fb N a x && (match r with | [] => ckE tb sc fb N b y | _ => ckE tb sc fb N b (.BoolOp .Or (y :: r) p))
  | .not1 a, .UnaryOp .Not x _ => ckE tb sc fb N a x
  | .ite c a b, .IfExp x y z _ => ckE tb sc fb N c x && ckE tb sc fb N a y && ckE tb sc fb N b z
  | .tup es, .Tuple xs _ _ => ckEs tb sc fb N es xs
  | .lst es, .List xs _ => ckEs tb sc fb N es xs
  | .idx a i, .Subscript x y _ => ckE tb sc fb N a x && ckE tb sc fb N i y
  | .slc a lo hi, .Subscript x (.Slice l h none _) _ => ckE tb sc fb N a x && ckEo tb sc fb N lo l && ckEo tb sc fb N hi h
  | .call f es, .Call (.Name x _) (y :: ys) [] _ => decide (f = x) && glB sc x && okNm x && arB tb x (ys.length + 1) && ckEs tb sc fb N es (y :: ys)
  | .bi f es, .Call (.Name x _) (y :: ys) [] _ => decide (biName f = x) && glB sc x && okNm x && ckEs tb sc fb N es (y :: ys)
  | .heard f c e, z => (match vLamC z with
    | some r => decide (f = r.1) && glB sc r.1 && tb.lam && decide (tb.hd f = some c) && noPar r.2.2.1 && LamX.lamSB sc r.2.2.2.2.1 && ckE tb.off r.2.2.2.2.1 (fun _ => false) N e r.2.2.2.1
    | none => false)
  | .heard2 f c e, z => (match vLamC z with
    | some r => decide (f = r.1) && glB sc r.1 && tb.lam && decide (tb.hd2 f = some c) && noPar r.2.2.1 && LamX.lamSB sc r.2.2.2.2.1 && ckE tb.off r.2.2.2.2.1 (fun _ => false) N e r.2.2.2.1
    | none => false)
  | .dnew, .Dict [] [] _ => true
  | .dic1 k v, .Dict [some x] [y] _ => ckE tb sc fb N k x && ckE tb sc fb N v y
  | .dget2 a k e, z => (match vMeth z with
    | some (x, n, ap, [y, w], cp) => decide (n = "get") && baseE x && (ap.endLine == cp.line) && ckE tb sc fb N a x && ckE tb sc fb N k y && ckE tb sc fb N e w
    | _ => false)
  | .dnewT, .Dict [] [] _ => true
  | .dgetT a k e, z => (match vMeth z with
    | some (x, n, ap, [y, w], cp) => (match vTupP y with
      | some r => decide (n = "get") && baseE x && (ap.endLine == cp.line) && ckE tb sc fb N a x && ckEs tb sc fb N k r.1 && ckE tb sc fb N e w
      | none => false)
    | _ => false)
  | .fz e, z => ckE tb sc fb N e z
  | .attr e f, .Attribute x n _ => decide (f = n) && baseE x && ckE tb sc fb N e x
  | .isi e ts, .Call (.Name n _) [x, .Tuple zs _ _] [] _ => decide (n = "isinstance") && glB sc n && ckTys sc ts zs && decide (ts.length ≤ 100) && ckE tb sc fb N e x
  | .sset e, .Call (.Name n _) [.Call (.Name m _) [x] [] _] [] _ => decide (n = "sorted") && decide (m = "set") && glB sc n && glB sc m && ckE tb sc fb N e x
  | .new c f es, .Call (.Name x _) (y :: ys) [] _ => decide (c = x) && glB sc x && okNm x && arM tb c f (ys.length + 1) && ckEs tb sc fb N es (y :: ys)
  | .app o es, z => (match vMeth z with
    | some (x, n, ap, ys, cp) => decide (n = "append") && baseE x && (ap.endLine == cp.line) && (ys.length == 1) && ckE tb sc fb N o x && ckEs tb sc fb N es ys
    | none => false)
  | .me m o es, z => (match vMeth z with
    | some (x, n, ap, ys, cp) => decide (n = lmName m) && baseE x && (ap.endLine == cp.line) && meA m ys && ckE tb sc fb N o x && ckEs tb sc fb N es ys
    | none => false)
  | .lc own tg it c e, .ListComp x [⟨t, i, ifs, 0⟩] scope _ => blkC N sc scope own && tg.slots.all (fun n => decide (n ∈ own.map (·.2))) && ckT (relS scope sc) (fbOf scope) N tg t && ckIt tb sc fb N it t i && ckC tb.off (relS scope sc) (fbOf scope) N c ifs && ckE tb.off (relS scope sc) (fbOf scope) N e x
  | _, _ => false
def ckEs (tb : Tab) (sc : Scope) (fb : Str → Bool) (N : List Str) : Es → List Expr → Bool
  | .nil, [] => true
  | .cons e es, x :: xs => ckE tb sc fb N e x && ckEs tb sc fb N es xs
  | _, _ => false
def ckEo (tb : Tab) (sc : Scope) (fb : Str → Bool) (N : List Str) : Eo → Option Expr → Bool
  | .none, none => true
  | .some e, some x => ckE tb sc fb N e x
  | _, _ => false
def ckC (tb : Tab) (sc : Scope) (fb : Str → Bool) (N : List Str) : Eo → List Expr → Bool
  | .none, [] => true
  | .some e, [x] => ckE tb sc fb N e x
  | _, _ => false
def ckIt (tb : Tab) (sc : Scope) (fb : Str → Bool) (N : List Str) : It → Expr → Expr → Bool
  | .seq e, _, x => ckE tb sc fb N e x
  | .rng es, _, .Call (.Name x _) xs [] _ => decide (x = "range") && glB sc x && ckEs tb sc fb N es xs && (xs.length == 1 || xs.length == 2)
  | .zip a b, .Tuple _ _ _, .Call (.Name x _) [y, z] [] _ => decide (x = "zip") && glB sc x && ckE tb sc fb N a y && ckE tb sc fb N b z
  | .enum a, .Tuple _ _ _, .Call (.Name x _) [y] [] _ => decide (x = "enumerate") && glB sc x && ckE tb sc fb N a y
  | _, _, _ => false
end
section
variable {tb : Tab} {sc : Scope} {fb : Str → Bool} {N : List Str}
theorem star_no : ∀ (e : E) (y : Expr) (z : Unit) (p : Pos), ckE tb sc fb N e (.Starred y p) = false
  | .fz e, y, z, p => by rw [ckE]; exact star_no e y z p
  | .var _, _, _, _ | .int _, _, _, _ | .bl _, _, _, _ | .non, _, _, _ | .str _, _, _, _ | .tyn _ _, _, _, _ | .con _ _, _, _, _ | .bin _ _ _, _, _, _ | .neg _, _, _, _ | .cmp _ _ _, _, _, _ | .chain _ _ _ _ _, _, _, _ | .and2 _ _, _, _, _ | .or2 _ _, _, _, _ | .not1 _, _, _, _
  | .ite _ _ _, _, _, _ | .tup _, _, _, _ | .lst _, _, _, _ | .idx _ _, _, _, _ | .slc _ _ _, _, _, _ | .dnew, _, _, _ | .dic1 _ _, _, _, _ | .dget2 _ _ _, _, _, _ | .dnewT, _, _, _ | .dgetT _ _ _, _, _, _ | .attr _ _, _, _, _ | .new _ _ _, _, _, _ | .isi _ _, _, _, _ | .sset _, _, _, _ | .call _ _, _, _, _
  | .bi _ _, _, _, _ | .me _ _ _, _, _, _ | .app _ _, _, _, _ | .heard _ _ _, _, _, _ | .heard2 _ _ _, _, _, _ | .lc _ _ _ _ _, _, _, _ => by simp [ckE, vMeth, vLamC]
theorem set_no : ∀ (e : E) (y : List Expr) (z : Nat) (p : Pos), ckE tb sc fb N e (.Set y z p) = false
  | .fz e, y, z, p => by rw [ckE]; exact set_no e y z p
  | .var _, _, _, _ | .int _, _, _, _ | .bl _, _, _, _ | .non, _, _, _ | .str _, _, _, _ | .tyn _ _, _, _, _ | .con _ _, _, _, _ | .bin _ _ _, _, _, _ | .neg _, _, _, _ | .cmp _ _ _, _, _, _ | .chain _ _ _ _ _, _, _, _ | .and2 _ _, _, _, _ | .or2 _ _, _, _, _ | .not1 _, _, _, _
  | .ite _ _ _, _, _, _ | .tup _, _, _, _ | .lst _, _, _, _ | .idx _ _, _, _, _ | .slc _ _ _, _, _, _ | .dnew, _, _, _ | .dic1 _ _, _, _, _ | .dget2 _ _ _, _, _, _ | .dnewT, _, _, _ | .dgetT _ _ _, _, _, _ | .attr _ _, _, _, _ | .new _ _ _, _, _, _ | .isi _ _, _, _, _ | .sset _, _, _, _ | .call _ _, _, _, _
  | .bi _ _, _, _, _ | .me _ _ _, _, _, _ | .app _ _, _, _, _ | .heard _ _ _, _, _, _ | .heard2 _ _ _, _, _, _ | .lc _ _ _ _ _, _, _, _ => by simp [ckE, vMeth, vLamC]
theorem slice_no : ∀ (e : E) (y : Option Expr) (z : Option Expr × Option Expr) (p : Pos), ckE tb sc fb N e (.Slice y z.1 z.2 p) = false
  | .fz e, y, z, p => by rw [ckE]; exact slice_no e y z p
  | .var _, _, _, _ | .int _, _, _, _ | .bl _, _, _, _ | .non, _, _, _ | .str _, _, _, _ | .tyn _ _, _, _, _ | .con _ _, _, _, _ | .bin _ _ _, _, _, _ | .neg _, _, _, _ | .cmp _ _ _, _, _, _ | .chain _ _ _ _ _, _, _, _ | .and2 _ _, _, _, _ | .or2 _ _, _, _, _ | .not1 _, _, _, _
  | .ite _ _ _, _, _, _ | .tup _, _, _, _ | .lst _, _, _, _ | .idx _ _, _, _, _ | .slc _ _ _, _, _, _ | .dnew, _, _, _ | .dic1 _ _, _, _, _ | .dget2 _ _ _, _, _, _ | .dnewT, _, _, _ | .dgetT _ _ _, _, _, _ | .attr _ _, _, _, _ | .new _ _ _, _, _, _ | .isi _ _, _, _, _ | .sset _, _, _, _ | .call _ _, _, _, _
  | .bi _ _, _, _, _ | .me _ _ _, _, _, _ | .app _ _, _, _, _ | .heard _ _ _, _, _, _ | .heard2 _ _ _, _, _, _ | .lc _ _ _ _ _, _, _, _ => by simp [ckE, vMeth, vLamC]
theorem ck_star {e : E} {x : Expr} (h : ckE tb sc fb N e x = true) : notStar x = true := by
  cases x <;> first | rfl | (rw [star_no e _ () _] at h; cases h) | (rw [set_no] at h; cases h) | (rw [slice_no e _ (_, _) _] at h; cases h)
theorem star_of {x : Expr} (h : notStar x = true) (xs : List Expr) (env : PySem.Env) : starEach (x :: xs) env = (false, eval x env) :: starEach xs env := by
  cases x <;> first | rfl | (simp [notStar] at h)
theorem plain_of {x : Expr} (h : notStar x = true) : PlainIx x := by
  cases x <;> first | (intro _ _; rfl) | (simp [notStar] at h)
theorem noset_of {x : Expr} (h : notStar x = true) (env : PySem.Env) (v : Value) : foldedSetIterable x env v = pure v := by
  cases x <;> first | rfl | (simp [notStar] at h)
theorem nomarks {x : Expr} (h : notStar x = true) (op : CmpOp) : behindInMarks op x = false := by
  cases x <;> first | rfl | (simp [notStar] at h)
theorem stars {es : Es} {xs : List Expr} (h : ckEs tb sc fb N es xs = true) (pos : Pos) (env : PySem.Env) : (backTo pos (starEach xs env)).any (·.1) = false := by
  induction xs generalizing es with
  | nil => rfl
  | cons x xs ih =>
    cases es with
    | nil => simp [ckEs] at h
    | cons e es =>
      simp only [ckEs, Bool.and_eq_true] at h
      rw [star_of (ck_star h.1)]
      exact ih h.2
end
end
end Fy
end
section
set_option Elab.async false
set_option linter.all false
set_option maxRecDepth 100000
set_option maxHeartbeats 2000000
/-! Fy8: expressions, one construct after another. -/
namespace Fy
open PySem PySem.Spec PyProof.Rows L2
/-- a value's truth behind it -/
def thr (f : Env → Sto → R T) : Env → Sto → R Bool := fun ρ s => (f ρ s).bind fun t s => ofO (truth t s) s
section
variable {g : Glo} {W : WX} {X : Cx} {σ : L2.St} {ι : List Addr} {H : Hp} {s : Sto} {e a b c : Expr} {f fa fb fc : Env → Sto → R T} {pos : Pos}

theorem pt_of (hK : X.K = g.K) (he : PE X e (tE g W f)) (hp : ∀ whole, PySem.isTrue e X.env whole = (do let v ← whole; standAt e.pos; holding [v] (truthy v))) : PT X e (tT g W (thr f)) :=
  PT.imp (pt_truth he hp) fun σ H Q ⟨ι, ρ, s, re, rs, w⟩ => ⟨ι, ρ, s, re, rs, Wp.step (RA := rlT g) w fun t s1 ι1 H1 v x1 rs1 r1 w1 => by
    obtain ⟨b, e, q⟩ := w1.opt
    exact ⟨b, by rw [hK]; exact tru_V rs1 r1.1 e, q ι1 H1 b Ext.refl rs1 rfl⟩⟩
theorem wp_cond {α β : Type} {RB : Rl α β} {Q : β → Hp → Prop} {ρ : Env} {m1 m2 : T → Sto → R α} {N : Bool → Hp → Prop}
    (w : Wp g W RB σ ι H ((fa ρ s).bind fun x s => match truth x s with | some true => m1 x s | some false => m2 x s | none => .bad) Q)
    (h1 : ∀ x s1 ι1 H1, truth x s1 = some true → Ext ι H ι1 H1 → RS g ι1 s1 H1 → Wp g W RB σ ι1 H1 (m1 x s1) Q → N true H1)
    (h2 : ∀ x s1 ι1 H1, truth x s1 = some false → Ext ι H ι1 H1 → RS g ι1 s1 H1 → Wp g W RB σ ι1 H1 (m2 x s1) Q → N false H1) : Wp g W rlB σ ι H (thr fa ρ s) N := by
  unfold thr
  cases h : fa ρ s with
  | ok x s1 =>
    rw [h] at w
    simp only [R.bind_ok] at w ⊢
    cases ht : truth x s1 with
    | none => rw [ht] at w; exact w.elim
    | some b =>
      rw [ht] at w
      rintro ι' H' b' x1 rs1 r1
      have r1' : b = b' := r1
      subst r1'
      cases b with
      | true => exact h1 x s1 ι' H' ht x1 rs1 (Wp.shift (m := m1 x s1) w x1)
      | false => exact h2 x s1 ι' H' ht x1 rs1 (Wp.shift (m := m2 x s1) w x1)
  | ex x s1 => rw [h] at w; exact w
  | bad => rw [h] at w; exact w.elim

/-! ### and, or, not, if -/
def fAnd (fa fb : Env → Sto → R T) : Env → Sto → R T := fun ρ s => (fa ρ s).bind fun x s => match truth x s with | some true => fb ρ s | some false => .ok x s | none => .bad
def fOr (fa fb : Env → Sto → R T) : Env → Sto → R T := fun ρ s => (fa ρ s).bind fun x s => match truth x s with | some false => fb ρ s | some true => .ok x s | none => .bad
def fIte (fc fa fb : Env → Sto → R T) : Env → Sto → R T := fun ρ s => (fc ρ s).bind fun x s => match truth x s with | some true => fa ρ s | some false => fb ρ s | none => .bad
theorem pe_and_ {x y : Expr} {r : List Expr} (hK : X.K = g.K) (ha : PE X x (tE g W fa)) (hb : PE X (.BoolOp .And (y :: r) pos) (tE g W fb)) : PE X (.BoolOp .And (x :: y :: r) pos) (tE g W (fAnd fa fb)) :=
  PE.imp (pe_andT ha hb) fun σ H Q ⟨ι, ρ, s, re, rs, w⟩ => ⟨ι, ρ, s, re, rs, Wp.step0 (RA := rlT g) w fun t s1 ι1 H1 v _ x1 rs1 r1 w0 => by
    cases ht : truth t s1 with
    | none => simp only [ht] at w0; exact w0.elim
    | some b =>
      refine ⟨b, by rw [hK]; exact tru_V rs1 r1.1 ht, ?_⟩
      cases b with
      | true => simp only [ht] at w0; exact ⟨ι1, ρ, s1, re.ext rs x1, rs1, Wp.shift w0 x1⟩
      | false => simp only [ht] at w0; exact w0 ι1 H1 v x1 rs1 r1⟩
theorem pe_or_ {x y : Expr} {r : List Expr} (hK : X.K = g.K) (ha : PE X x (tE g W fa)) (hb : PE X (.BoolOp .Or (y :: r) pos) (tE g W fb)) : PE X (.BoolOp .Or (x :: y :: r) pos) (tE g W (fOr fa fb)) :=
  PE.imp (pe_orT ha hb) fun σ H Q ⟨ι, ρ, s, re, rs, w⟩ => ⟨ι, ρ, s, re, rs, Wp.step0 (RA := rlT g) w fun t s1 ι1 H1 v _ x1 rs1 r1 w0 => by
    cases ht : truth t s1 with
    | none => simp only [ht] at w0; exact w0.elim
    | some b =>
      refine ⟨b, by rw [hK]; exact tru_V rs1 r1.1 ht, ?_⟩
      cases b with
      | false => simp only [ht] at w0; exact ⟨ι1, ρ, s1, re.ext rs x1, rs1, Wp.shift w0 x1⟩
      | true => simp only [ht] at w0; exact w0 ι1 H1 v x1 rs1 r1⟩
theorem pe_not_ {x : Expr} (hK : X.K = g.K) (ha : PE X x (tE g W fa)) : PE X (.UnaryOp .Not x pos) (tE g W fun ρ s => (fa ρ s).bind fun x s => match truth x s with | some b => .ok (.v (.bl (!b))) s | none => .bad) :=
  PE.imp (pe_notT ha) fun σ H Q ⟨ι, ρ, s, re, rs, w⟩ => ⟨ι, ρ, s, re, rs, Wp.step0 (RA := rlT g) w fun t s1 ι1 H1 v _ x1 rs1 r1 w0 => by
    cases ht : truth t s1 with
    | none => simp only [ht] at w0; exact w0.elim
    | some b =>
      refine ⟨b, by rw [hK]; exact tru_V rs1 r1.1 ht, ?_⟩
      simp only [ht] at w0
      exact w0 ι1 H1 _ x1 rs1 (rlT.v (.bl _))⟩
theorem thr_and : thr (fAnd fa fb) = fun ρ s => (fa ρ s).bind fun x s => match truth x s with | some true => thr fb ρ s | some false => .ok false s | none => .bad := by
  funext ρ s
  unfold thr fAnd
  cases fa ρ s with
  | ok x s1 =>
    simp only [R.bind_ok]
    cases ht : truth x s1 with
    | none => rfl
    | some b => cases b <;> simp [ht]
  | ex x s1 => rfl
  | bad => rfl
theorem thr_or : thr (fOr fa fb) = fun ρ s => (fa ρ s).bind fun x s => match truth x s with | some true => .ok true s | some false => thr fb ρ s | none => .bad := by
  funext ρ s
  unfold thr fOr
  cases fa ρ s with
  | ok x s1 =>
    simp only [R.bind_ok]
    cases ht : truth x s1 with
    | none => rfl
    | some b => cases b <;> simp [ht]
  | ex x s1 => rfl
  | bad => rfl
theorem thr_ite : thr (fIte fc fa fb) = fun ρ s => (fc ρ s).bind fun x s => match truth x s with | some true => thr fa ρ s | some false => thr fb ρ s | none => .bad := by
  funext ρ s
  unfold thr fIte
  cases fc ρ s with
  | ok x s1 =>
    simp only [R.bind_ok]
    cases ht : truth x s1 with
    | none => rfl
    | some b => cases b <;> rfl
  | ex x s1 => rfl
  | bad => rfl
def fNot (fa : Env → Sto → R T) : Env → Sto → R T := fun ρ s => (fa ρ s).bind fun x s => match truth x s with | some b => .ok (.v (.bl (!b))) s | none => .bad
theorem thr_not : thr (fNot fa) = fun ρ s => (thr fa ρ s).bind fun b s => .ok (!b) s := by
  funext ρ s
  simp only [thr, fNot]
  cases fa ρ s with
  | ok x s1 =>
    simp only [R.bind_ok]
    cases ht : truth x s1 with
    | none => rfl
    | some b => rfl
  | ex x s1 => rfl
  | bad => rfl
/-- a test that is one whatever the whole is -/
theorem pw_of {t : TT} {op : BoolOp} {xs : List Expr} (h : PT X (.BoolOp op xs pos) t) : PW X (.BoolOp op xs pos) t := ⟨fun wh pins s σ H Q I q => h.run pins s σ H Q I q⟩
theorem pw_and_ {x y : Expr} {r : List Expr} (ha : PT X x (tT g W (thr fa))) (hb : PW X (.BoolOp .And (y :: r) pos) (tT g W (thr fb))) : PT X (.BoolOp .And (x :: y :: r) pos) (tT g W (thr (fAnd fa fb))) :=
  PT.imp (pw_and ha hb).pt fun σ H Q ⟨ι, ρ, s, re, rs, w⟩ => by
    rw [thr_and] at w
    exact ⟨ι, ρ, s, re, rs, wp_cond w (fun x s1 ι1 H1 _ x1 rs1 w1 => by rw [if_pos rfl]; exact ⟨ι1, ρ, s1, re.ext rs x1, rs1, w1⟩)
      fun x s1 ι1 H1 _ x1 rs1 w1 => by rw [if_neg Bool.false_ne_true]; exact w1 ι1 H1 false Ext.refl rs1 rfl⟩
theorem pw_or_ {x y : Expr} {r : List Expr} (ha : PT X x (tT g W (thr fa))) (hb : PW X (.BoolOp .Or (y :: r) pos) (tT g W (thr fb))) : PT X (.BoolOp .Or (x :: y :: r) pos) (tT g W (thr (fOr fa fb))) :=
  PT.imp (pw_or ha hb).pt fun σ H Q ⟨ι, ρ, s, re, rs, w⟩ => by
    rw [thr_or] at w
    exact ⟨ι, ρ, s, re, rs, wp_cond w (fun x s1 ι1 H1 _ x1 rs1 w1 => by rw [if_pos rfl]; exact w1 ι1 H1 true Ext.refl rs1 rfl)
      fun x s1 ι1 H1 _ x1 rs1 w1 => by rw [if_neg Bool.false_ne_true]; exact ⟨ι1, ρ, s1, re.ext rs x1, rs1, w1⟩⟩
theorem pt_not_ {x : Expr} (ha : PT X x (tT g W (thr fa))) : PT X (.UnaryOp .Not x pos) (tT g W (thr (fNot fa))) :=
  PT.imp (pt_not ha) fun σ H Q ⟨ι, ρ, s, re, rs, w⟩ => by
    rw [thr_not] at w
    exact ⟨ι, ρ, s, re, rs, Wp.step (RA := rlB) w fun b s1 ι1 H1 v x1 rs1 r1 w1 => by
      have e : b = v := r1
      subst e
      exact w1 ι1 H1 _ Ext.refl rs1 rfl⟩
theorem pe_ite_ {x y z : Expr} (hc : PT X x (tT g W (thr fc))) (ha : PE X y (tE g W fa)) (hb : PE X z (tE g W fb)) : PE X (.IfExp x y z pos) (tE g W (fIte fc fa fb)) :=
  PE.imp (pe_ifExp hc ha hb) fun σ H Q ⟨ι, ρ, s, re, rs, w⟩ =>
    ⟨ι, ρ, s, re, rs, wp_cond (RB := rlT g) (Q := Q) w (fun x s1 ι1 H1 _ x1 rs1 w1 => by rw [if_pos rfl]; exact ⟨ι1, ρ, s1, re.ext rs x1, rs1, w1⟩)
      fun x s1 ι1 H1 _ x1 rs1 w1 => by rw [if_neg Bool.false_ne_true]; exact ⟨ι1, ρ, s1, re.ext rs x1, rs1, w1⟩⟩
theorem pt_ifExp {x y z : Expr} {tc ta tb' : TT} (hc : PT X x tc) (ha : PT X y ta) (hb : PT X z tb') : PT X (.IfExp x y z pos) (fun σ H Q => tc σ H fun c H1 => if c = true then ta σ H1 Q else tb' σ H1 Q) := by
  refine ⟨fun pins s σ H Q I h => ?_⟩
  show wpAny _ _ (do if ← PySem.isTrue x X.env (eval x X.env) then PySem.isTrue y X.env (eval y X.env) else PySem.isTrue z X.env (eval z X.env)) _ _ _
  refine wpAny_bind (thn (hc.run pins s σ H _ I h) fun d s1 ⟨H1, I1, q1⟩ => ?_)
  cases d with
  | true => exact ha.run pins s1 σ H1 Q I1 q1
  | false => exact hb.run pins s1 σ H1 Q I1 q1
theorem pt_ite_ {x y z : Expr} (hc : PT X x (tT g W (thr fc))) (ha : PT X y (tT g W (thr fa))) (hb : PT X z (tT g W (thr fb))) : PT X (.IfExp x y z pos) (tT g W (thr (fIte fc fa fb))) :=
  PT.imp (pt_ifExp hc ha hb) fun σ H Q ⟨ι, ρ, s, re, rs, w⟩ => by
    rw [thr_ite] at w
    exact ⟨ι, ρ, s, re, rs, wp_cond w (fun x s1 ι1 H1 _ x1 rs1 w1 => by rw [if_pos rfl]; exact ⟨ι1, ρ, s1, re.ext rs x1, rs1, w1⟩)
      fun x s1 ι1 H1 _ x1 rs1 w1 => by rw [if_neg Bool.false_ne_true]; exact ⟨ι1, ρ, s1, re.ext rs x1, rs1, w1⟩⟩

/-! ### two values -/
def f2 (op : T → T → Sto → Option T) (fa fb : Env → Sto → R T) : Env → Sto → R T := fun ρ s => (fa ρ s).bind fun x s => (fb ρ s).bind fun y s => ofO (op x y s) s
/-- the reading of an operation on two values -/
theorem two_ok {op : T → T → Sto → Option T} {Q : VK} (h : tE g W (f2 op fa fb) σ H Q) : tOp (rO2 g op) (tE g W fa) (tE g W fb) σ H Q := by
  obtain ⟨ι, ρ, s, re, rs, w⟩ := h
  refine ⟨ι, ρ, s, re, rs, Wp.step (RA := rlT g) w fun x s1 ι1 H1 v x1 rs1 r1 w1 => ?_⟩
  refine ⟨ι1, ρ, s1, re.ext rs x1, rs1, Wp.step (RA := rlT g) w1 fun y s2 ι2 H2 u x2 rs2 r2 w2 => ?_⟩
  exact ⟨ι2, s2, x, y, rs2, r1.1.ext rs1 x2, r2.1, w2.opt⟩
theorem pe_bin_ {op : Bop} (hK : X.K = g.K) (ha : PE X a (tE g W fa)) (hb : PE X b (tE g W fb)) : PE X (.BinOp a (opOf op) b pos) (tE g W (f2 (binT op) fa fb)) :=
  PE.imp (pe_op (bin_ok hK op) ha hb) fun σ H Q h => two_ok h
def fCmp (op : Cop) : T → T → Sto → Option T := fun x y s => (cmpT op x y s).map fun b => .v (.bl b)
theorem pe_cmp_ {op : Cop} (hK : X.K = g.K) (hu : X.A.units + 65 < cLine) (ha : PE X a (tE g W fa)) (hb : PE X b (tE g W fb)) (hm : behindInMarks (cmpOf op) b = false) : PE X (.Compare a [cmpOf op] [b] pos) (tE g W (f2 (fCmp op) fa fb)) :=
  PE.imp (pe_cmpR (cmp_ok hK hu op) ha hb hm) fun σ H Q h => two_ok h
theorem pt_cmp_ {op : Cop} (hK : X.K = g.K) (hu : X.A.units + 65 < cLine) (ha : PE X a (tE g W fa)) (hb : PE X b (tE g W fb)) (hm : behindInMarks (cmpOf op) b = false) : PT X (.Compare a [cmpOf op] [b] pos) (tT g W (thr (f2 (fCmp op) fa fb))) :=
  PT.imp (pt_cmpR (cmp_ok hK hu op) ha hb hm) fun σ H Q ⟨ι, ρ, s, re, rs, w⟩ => two_ok ⟨ι, ρ, s, re, rs, by
    refine Wp.step0 (RA := rlT g) w fun t s1 ι1 H1 v h1 x1 rs1 r1 w0 => ?_
    -- what a comparison gives is a bool
    have hb : ∃ b, t = .v (.bl b) := by
      unfold f2 at h1
      cases hx : fa ρ s with
      | ok x s2 =>
        rw [hx] at h1
        simp only [R.bind_ok] at h1
        cases hy : fb ρ s2 with
        | ok y s3 =>
          rw [hy] at h1
          simp only [R.bind_ok] at h1
          cases hc : cmpT op x y s3 with
          | none => rw [hc] at h1; simp at h1
          | some b => rw [hc] at h1; simp at h1; exact ⟨b, h1.1.symm⟩
        | ex _ _ => rw [hy] at h1; simp at h1
        | bad => rw [hy] at h1; simp at h1
      | ex _ _ => rw [hx] at h1; simp at h1
      | bad => rw [hx] at h1; simp at h1
    obtain ⟨b, rfl⟩ := hb
    cases r1.1.bl_
    exact ⟨b, rfl, (Wp.shift (RB := rlB) (m := .ok b s1) w0 x1) ι1 H1 b Ext.refl rs1 rfl⟩⟩
theorem pe_idx_ (hK : X.K = g.K) (hu : X.A.units + 65 < cLine) (ha : PE X a (tE g W fa)) (hb : PE X b (tE g W fb)) (hs : PlainIx b) : PE X (.Subscript a b pos) (tE g W (f2 idxT fa fb)) :=
  PE.imp (pe_ix (idx_ok hK hu) ha hb hs) fun σ H Q h => two_ok h
theorem pe_neg_ (ha : PE X a (tE g W fa)) : PE X (.UnaryOp .USub a pos) (tE g W fun ρ s => (fa ρ s).bind fun x s => match x with | .v (.int i) => .ok (.v (.int (-i))) s | _ => .bad) :=
  PE.imp (pe_un un_neg ha) fun σ H Q ⟨ι, ρ, s, re, rs, w⟩ => ⟨ι, ρ, s, re, rs, Wp.step (RA := rlT g) w fun x s1 ι1 H1 v x1 rs1 r1 w1 => by
    cases x with
    | l _ => exact w1.elim
    | v d =>
      cases d with
      | int i => cases r1.1.int_; exact ⟨i, rfl, w1 ι1 H1 _ Ext.refl rs1 (rlT.v (.int _))⟩
      | _ => exact w1.elim⟩
end
end Fy
end
section
set_option Elab.async false
set_option linter.all false
set_option maxRecDepth 100000
set_option maxHeartbeats 2000000
/-! FzF: a list that nobody else holds is locked: it is data from then on. -/
namespace Fy
open PySem PySem.Spec PyProof.Rows L2
section
variable {g : Glo} {W : WX} {X : Cx} {σ : L2.St} {ι : List Addr} {H : Hp} {s : Sto} {e : Expr} {fa : Env → Sto → R T}
theorem pe_lockE {t : TE} (h : PE X e t) : PE X e (fun σ H Q => t σ H fun v H1 => Q v H1 ∨ ∃ a u, v = .ref a ∧ H1 a = some u ∧ Mut (some u) ∧ ∀ od, Q v (L2.upd H1 a (.frz od u))) :=
  ⟨fun pins s σ H Q I w => wpAny_mono (h.run pins s σ H _ I w) (fun u s' hq => by
    obtain ⟨v, H', I', rv, q⟩ := hq
    rcases q with q | ⟨a, u, rfl, e, mu, q⟩
    · exact ⟨v, H', I', rv, q⟩
    · obtain ⟨od, J⟩ := I'.lock e mu
      exact ⟨_, _, J, rv, q od⟩) fun _ _ hq => hq⟩
theorem tabs_lk {T : List (Addr × Str)} {a : Addr} {vs : List V} {od : Obj} (h : H a = some (.lst vs)) (t : LamX.Tabs T H) : LamX.Tabs T (L2.upd H a (.frz od (.lst vs))) := fun p hp => by
  obtain ⟨ps, h1, h2, h3⟩ := t p hp
  have ne : ∀ {b : Addr} {u : HO}, H b = some u → (∀ xs, u ≠ .lst xs) → b ≠ a := fun {b u} e k q => by
    subst q
    rw [h] at e
    exact k vs (Option.some.inj e).symm
  refine ⟨ps, by rw [upd_ne (ne h1 fun _ q => by cases q)]; exact h1, h2, fun pos cv hc => ?_⟩
  obtain ⟨c, e1, e2⟩ := h3 pos cv hc
  refine ⟨c, e1, by rw [upd_ne (ne e2 fun _ q => by unfold LamX.CodeO at q; cases q)]; exact e2⟩
theorem RD.lk {a : Addr} {vs : List V} {od : Obj} {d : D} {v : V} (h : H a = some (.lst vs)) (r : RD g ι H d v) : RD g ι (L2.upd H a (.frz od (.lst vs))) d v :=
  r.imp (fun _ _ q => q) (fun b ws q => by
    have ne : b ≠ a := by
      rintro rfl
      rcases q with q | ⟨o, q⟩ <;> (rw [h] at q; cases q)
    rcases q with q | ⟨o, q⟩
    · exact .inl (by rw [upd_ne ne]; exact q)
    · exact .inr ⟨o, by rw [upd_ne ne]; exact q⟩)
    (fun b o ws q => by
      have ne : b ≠ a := by
        rintro rfl
        rw [h] at q; cases q
      rw [upd_ne ne]; exact q)
theorem RDs.lk {a : Addr} {vs : List V} {od : Obj} (h : H a = some (.lst vs)) {ds : List D} {ws : List V} (r : RDs g ι H ds ws) : RDs g ι (L2.upd H a (.frz od (.lst vs))) ds ws := RDs.of (fun q => q.lk h) r
theorem RS.lk {a : Addr} {vs : List V} {od : Obj} (rs : RS g ι s H) (h : H a = some (.lst vs)) (n : a ∉ ι) : RS g ι s (L2.upd H a (.frz od (.lst vs))) := by
  refine ⟨rs.nd, rs.len, fun k o e => ?_, tabs_lk h rs.tb⟩
  obtain ⟨b, eb, r⟩ := rs.at_ k o e
  have ne : b ≠ a := fun q => n (q ▸ List.mem_of_getElem? eb)
  exact ⟨b, eb, r.move (upd_ne ne) fun q => q.lk h⟩
theorem pe_fz_ (he : PE X e (tE g W fa)) : PE X e (tE g W fun ρ s => (fa ρ s).bind fun t s => .ok (.v t.froz) s) :=
  PE.imp (pe_lockE he) fun σ H Q ⟨ι, ρ, s, re, rs, w⟩ => ⟨ι, ρ, s, re, rs, Wp.step0 (RA := rlT g) w fun t s1 ι1 H1 v e1 x1 rs1 r1 w0 => by
    cases t with
    | v d =>
      left
      have w1 := Wp.shift w0 x1
      exact w1 ι1 H1 v Ext.refl rs1 ⟨r1.1, trivial⟩
    | l xs =>
      right
      obtain ⟨r, fr⟩ := r1
      cases r with
      | @l _ a vs h n rd =>
        have nnH : nn H a := by
          obtain ⟨b, eb, q⟩ := fr
          cases eb
          exact q
        refine ⟨a, _, rfl, h, trivial, fun od => ?_⟩
        have x2 : Ext ι H ι1 (L2.upd H1 a (.frz od (.lst vs))) := ⟨x1.pre, fun b o eb nb hn => by
          have ne : b ≠ a := fun q => by subst q; exact nn_no nnH eb hn
          rw [upd_ne ne]
          exact x1.keep b o eb nb hn, x1.new⟩
        exact w0 ι1 _ _ x2 (rs1.lk h n) ⟨.v (.fro (.inl ⟨od, upd_same⟩) (rd.lk h)), trivial⟩⟩
theorem truth_froz (t : T) (s : Sto) : truth (.v t.froz) s = truth t s := by
  cases t with
  | v d => rfl
  | l xs => rfl
theorem thr_fz : thr (fun ρ s => (fa ρ s).bind fun t s => .ok (.v t.froz) s) = thr fa := by
  funext ρ s
  unfold thr
  dsimp only
  cases fa ρ s with
  | ok t s1 => simp only [R.bind_ok, truth_froz]
  | ex _ _ => rfl
  | bad => rfl
end
end Fy
end
section
set_option Elab.async false
set_option linter.all false
set_option maxRecDepth 100000
set_option maxHeartbeats 2000000
/-! Fy9: displays, arguments, calls, comprehensions. -/
namespace Fy
open PySem PySem.Spec PyProof.Rows L2
section
variable {g : Glo} {W : WX} {X : Cx} {σ : L2.St} {ι : List Addr} {H : Hp} {s : Sto} {e a b c : Expr} {f fa fb fc : Env → Sto → R T} {pos : Pos}

/-! ### a op b op' c -/
def fChain (op op' : Cop) (fa fb fc : Env → Sto → R T) : Env → Sto → R T := fun ρ s => (fa ρ s).bind fun x s => (fb ρ s).bind fun y s =>
  match cmpT op x y s with
  | some true => (fc ρ s).bind fun z s => ofO ((cmpT op' y z s).map fun b => .v (.bl b)) s
  | some false => .ok (.v (.bl false)) s
  | none => .bad
theorem chain_ok {op op' : Cop} {Q : VK} (h : tE g W (fChain op op' fa fb fc) σ H Q) : tChain (rO2 g (fCmp op)) (rO2 g (fCmp op')) (tE g W fa) (tE g W fb) (tE g W fc) σ H Q := by
  obtain ⟨ι, ρ, s, re, rs, w⟩ := h
  refine ⟨ι, ρ, s, re, rs, Wp.step (RA := rlT g) w fun x s1 ι1 H1 v x1 rs1 r1 w1 => ?_⟩
  refine ⟨ι1, ρ, s1, re.ext rs x1, rs1, Wp.step (RA := rlT g) w1 fun y s2 ι2 H2 u x2 rs2 r2 w2 => ?_⟩
  cases hc : cmpT op x y s2 with
  | none => rw [hc] at w2; exact w2.elim
  | some k =>
    rw [hc] at w2
    refine ⟨ι2, s2, x, y, rs2, r1.1.ext rs1 x2, r2.1, .v (.bl k), by simp [fCmp, hc], fun ι3 H3 z x3 rs3 r3 => ?_⟩
    cases r3.1.bl_
    refine ⟨k, rfl, ?_⟩
    cases k with
    | false =>
      rw [if_neg Bool.false_ne_true]
      exact (Wp.shift (RB := rlT g) (m := .ok (.v (.bl false)) s2) w2 x3) ι3 H3 _ Ext.refl rs3 (rlT.v (.bl _))
    | true =>
      rw [if_pos rfl]
      refine ⟨ι3, ρ, s2, (re.ext rs (x1.trans x2)).ext rs2 x3, rs3, Wp.step (RA := rlT g) (Wp.shift w2 x3) fun z s3 ι4 H4 q x4 rs4 r4 w4 => ?_⟩
      exact ⟨ι4, s3, y, z, rs4, (r2.1.ext rs2 x3).ext rs3 x4, r4.1, w4.opt⟩
theorem pe_chain_ {op op' : Cop} (hK : X.K = g.K) (hu : X.A.units + 65 < cLine) (ha : PE X a (tE g W fa)) (hb : PE X b (tE g W fb)) (hc : PE X c (tE g W fc)) (hm : lastMarks [cmpOf op, cmpOf op'] [b, c] = false) :
    PE X (.Compare a [cmpOf op, cmpOf op'] [b, c] pos) (tE g W (fChain op op' fa fb fc)) :=
  PE.imp (pe_chain (cmp_ok hK hu op) (cmp_ok hK hu op') ha hb hc hm) fun σ H Q h => chain_ok h
theorem chain_bl {op op' : Cop} {ρ : Env} {t : T} {s1 : Sto} (h : fChain op op' fa fb fc ρ s = .ok t s1) : ∃ b, t = .v (.bl b) := by
  unfold fChain at h
  cases hx : fa ρ s with
  | ok x s2 =>
    rw [hx] at h
    simp only [R.bind_ok] at h
    cases hy : fb ρ s2 with
    | ok y s3 =>
      rw [hy] at h
      simp only [R.bind_ok] at h
      cases hc : cmpT op x y s3 with
      | none => rw [hc] at h; simp at h
      | some b =>
        rw [hc] at h
        cases b with
        | false => simp at h; exact ⟨_, h.1.symm⟩
        | true =>
          simp only at h
          cases hz : fc ρ s3 with
          | ok z s4 =>
            rw [hz] at h
            simp only [R.bind_ok] at h
            cases hd : cmpT op' y z s4 with
            | none => rw [hd] at h; simp at h
            | some b => rw [hd] at h; simp at h; exact ⟨b, h.1.symm⟩
          | ex _ _ => rw [hz] at h; simp at h
          | bad => rw [hz] at h; simp at h
    | ex _ _ => rw [hy] at h; simp at h
    | bad => rw [hy] at h; simp at h
  | ex _ _ => rw [hx] at h; simp at h
  | bad => rw [hx] at h; simp at h
theorem pt_chain_ {op op' : Cop} (hK : X.K = g.K) (hu : X.A.units + 65 < cLine) (ha : PE X a (tE g W fa)) (hb : PE X b (tE g W fb)) (hc : PE X c (tE g W fc)) (hm : lastMarks [cmpOf op, cmpOf op'] [b, c] = false) :
    PT X (.Compare a [cmpOf op, cmpOf op'] [b, c] pos) (tT g W (thr (fChain op op' fa fb fc))) :=
  PT.imp (pt_chain (cmp_ok hK hu op) (cmp_ok hK hu op') ha hb hc hm) fun σ H Q ⟨ι, ρ, s, re, rs, w⟩ => chain_ok ⟨ι, ρ, s, re, rs, Wp.step0 (RA := rlT g) w fun t s1 ι1 H1 v h1 x1 rs1 r1 w0 => by
    obtain ⟨b, rfl⟩ := chain_bl h1
    cases r1.1.bl_
    exact ⟨b, rfl, (Wp.shift (RB := rlB) (m := .ok b s1) w0 x1) ι1 H1 b Ext.refl rs1 rfl⟩⟩

/-! ### arguments -/
/-- kept: a list goes into the store -/
theorem wp_keep {α β : Type} {RB : Rl α β} {Q : β → Hp → Prop} {ρ : Env} {k : D → Sto → R α} {N : V → Hp → Prop}
    (h : Wp g W RB σ ι H ((fa ρ s).bind fun t s => (keepR t s).bind k) Q)
    (hk : ∀ d s1 ι1 H1 v, Ext ι H ι1 H1 → RS g ι1 s1 H1 → RD g ι1 H1 d v → Wp g W RB σ ι1 H1 (k d s1) Q → N v H1) : Wp g W (rlT g) σ ι H (fa ρ s) N :=
  Wp.step0 (RA := rlT g) h fun t s1 ι1 H1 v _ x1 rs1 r1 w0 => by
    obtain ⟨ι2, rs2, x2, rd⟩ := keep_ok rs1 x1 r1.1 r1.2
    exact hk _ _ ι2 H1 v x2 rs2 rd (Wp.shift w0 x2)
def aNil : Env → Sto → R (List D) := fun _ s => .ok [] s
def aCons (fa : Env → Sto → R T) (fs : Env → Sto → R (List D)) : Env → Sto → R (List D) := fun ρ s => (fa ρ s).bind fun t s => (keepR t s).bind fun d s => (fs ρ s).bind fun ds s => .ok (d :: ds) s
theorem pa_nil_ : PA X [] (tA g W aNil) := PA.imp pa_nil fun σ H Q ⟨ι, ρ, s, re, rs, w⟩ => w ι H [] Ext.refl rs .nil
theorem pa_cons_ {fs : Env → Sto → R (List D)} {es : List Expr} (ha : PE X e (tE g W fa)) (hr : PA X es (tA g W fs)) (hs : starEach (e :: es) X.env = (false, eval e X.env) :: starEach es X.env) : PA X (e :: es) (tA g W (aCons fa fs)) :=
  PA.imp (pa_cons ha hr hs) fun σ H Q ⟨ι, ρ, s, re, rs, w⟩ => ⟨ι, ρ, s, re, rs, wp_keep (RB := rlDs g) w fun d s1 ι1 H1 v x1 rs1 rd w1 =>
    ⟨ι1, ρ, s1, re.ext rs x1, rs1, Wp.step (RA := rlDs g) w1 fun ds s2 ι2 H2 vs x2 rs2 rds w2 => w2 ι2 H2 (v :: vs) Ext.refl rs2 (RDs.cons (rd.ext rs1 x2) rds)⟩⟩
def bNil : Env → Sto → R (List T) := fun _ s => .ok [] s
def bCons (fa : Env → Sto → R T) (fs : Env → Sto → R (List T)) : Env → Sto → R (List T) := fun ρ s => (fa ρ s).bind fun t s => (fs ρ s).bind fun ts s => .ok (t :: ts) s
theorem pb_nil_ : PA X [] (tAT g W bNil) := PA.imp pa_nil fun σ H Q ⟨ι, ρ, s, re, rs, w⟩ => w ι H [] Ext.refl rs .nil
theorem pb_cons_ {fs : Env → Sto → R (List T)} {es : List Expr} (ha : PE X e (tE g W fa)) (hr : PA X es (tAT g W fs)) (hs : starEach (e :: es) X.env = (false, eval e X.env) :: starEach es X.env) : PA X (e :: es) (tAT g W (bCons fa fs)) :=
  PA.imp (pa_cons ha hr hs) fun σ H Q ⟨ι, ρ, s, re, rs, w⟩ => ⟨ι, ρ, s, re, rs, Wp.step (RA := rlT g) w fun t s1 ι1 H1 v x1 rs1 r1 w1 =>
    ⟨ι1, ρ, s1, re.ext rs x1, rs1, Wp.step (RA := rlTs g) w1 fun ts s2 ι2 H2 vs x2 rs2 rts w2 => w2 ι2 H2 (v :: vs) Ext.refl rs2 (RTs.cons (r1.1.ext rs1 x2) rts)⟩⟩

/-! ### displays -/
theorem pe_tup_ {fs : Env → Sto → R (List D)} {es : List Expr} {n : Nat} (h : PA X es (tA g W fs)) : PE X (.Tuple es n pos) (tE g W fun ρ s => (fs ρ s).bind fun xs s => if xs.length ≤ LIM then .ok (.v (.tup xs)) s else .bad) :=
  PE.imp (pe_tup h) fun σ H Q ⟨ι, ρ, s, re, rs, w⟩ => ⟨ι, ρ, s, re, rs, Wp.step (RA := rlDs g) w fun ds s1 ι1 H1 vs x1 rs1 rds w1 => by
    have hs : sizeLine = LIM := sizeLine_eq
    split at w1
    · rename_i hl
      exact ⟨by rw [hs, ← RDs.length rds]; exact hl, fun p hp => w1 ι1 _ _ (Ext.upd hp) (rs1.upd hp) (newT rs1 hp rds)⟩
    · exact w1.elim⟩
theorem pe_lst_ {fs : Env → Sto → R (List D)} {es : List Expr} (h : PA X es (tA g W fs)) : PE X (.List es pos) (tE g W fun ρ s => (fs ρ s).bind fun xs s => if xs.length ≤ LIM then .ok (.l xs) s else .bad) :=
  PE.imp (pe_lst h) fun σ H Q ⟨ι, ρ, s, re, rs, w⟩ => ⟨ι, ρ, s, re, rs, Wp.step (RA := rlDs g) w fun ds s1 ι1 H1 vs x1 rs1 rds w1 => by
    have hs : sizeLine = LIM := sizeLine_eq
    split at w1
    · rename_i hl
      exact ⟨by rw [hs, ← RDs.length rds]; exact hl, fun p hp => w1 ι1 _ _ (Ext.upd hp) (rs1.upd hp) (newL rs1 hp rds)⟩
    · exact w1.elim⟩

/-! ### slices -/
def rlO : Rl (Option Int) (Option Int) := ⟨fun _ _ _ a b => a = b, fun _ _ h => h⟩
def tO (g : Glo) (W : WX) (f : Env → Sto → R (Option Int)) : TO := fun σ H Q => ∃ ι ρ s, RE g ι H ρ σ ∧ RS g ι s H ∧ Wp g W rlO σ ι H (f ρ s) Q
theorem PO.imp {e : Option Expr} {t t' : TO} (h : PO X e t) (f : ∀ σ H Q, t' σ H Q → t σ H Q) : PO X e t' := ⟨fun pins s σ H Q I w => h.run pins s σ H Q I (f _ _ _ w)⟩
theorem po_none_ : PO X none (tO g W fun _ s => .ok none s) := PO.imp po_none fun σ H Q ⟨ι, ρ, s, re, rs, w⟩ => w ι H none Ext.refl rs rfl
theorem po_some_ (ha : PE X e (tE g W fa)) : PO X (some e) (tO g W fun ρ s => (fa ρ s).bind fun t s => match t with | .v (.int i) => .ok (some i) s | _ => .bad) :=
  PO.imp (po_some ha) fun σ H Q ⟨ι, ρ, s, re, rs, w⟩ => ⟨ι, ρ, s, re, rs, Wp.step (RA := rlT g) w fun x s1 ι1 H1 v x1 rs1 r1 w1 => by
    cases x with
    | l _ => exact w1.elim
    | v d =>
      cases d with
      | int i => cases r1.1.int_; exact ⟨i, rfl, w1 ι1 H1 _ Ext.refl rs1 rfl⟩
      | _ => exact w1.elim⟩
theorem pe_slc_ {fl fh : Env → Sto → R (Option Int)} {l h : Option Expr} {p2 : Pos} (hK : X.K = g.K) (ha : PE X e (tE g W fa)) (hl : PO X l (tO g W fl)) (hh : PO X h (tO g W fh)) :
    PE X (.Subscript e (.Slice l h none p2) pos) (tE g W fun ρ s => (fa ρ s).bind fun x s => (fl ρ s).bind fun lo s => (fh ρ s).bind fun hi s => ofO (slcT x lo hi s) s) :=
  PE.imp (pe_slice (slc_ok hK) ha hl hh) fun σ H Q ⟨ι, ρ, s, re, rs, w⟩ => ⟨ι, ρ, s, re, rs, Wp.step (RA := rlT g) w fun x s1 ι1 H1 v x1 rs1 r1 w1 =>
    ⟨ι1, ρ, s1, re.ext rs x1, rs1, Wp.step (RA := rlO) w1 fun lo s2 ι2 H2 lo' x2 rs2 e2 w2 =>
      ⟨ι2, ρ, s2, re.ext rs (x1.trans x2), rs2, Wp.step (RA := rlO) w2 fun hi s3 ι3 H3 hi' x3 rs3 e3 w3 => by
        have e2' : lo = lo' := e2
        have e3' : hi = hi' := e3
        subst e2' e3'
        exact ⟨ι3, s3, x, rs3, r1.1.ext rs1 (x2.trans x3), w3.opt⟩⟩⟩⟩

/-! ### calls -/
theorem fill_fill {d : Fn} {xs : List D} (hf : (d.fill xs).length = d.np) : d.fill (d.fill xs) = d.fill xs := by
  have z : ∀ ys : List D, ys.length = d.np → d.fill ys = ys := fun ys h => by
    unfold Fn.fill
    rw [h, Nat.add_sub_cancel, List.drop_length, List.append_nil]
  exact z _ hf
theorem callee {tb : Tab} {wf k : Nat} {f : Str} {d : Fn} {xs : List D} (hd : tb f = some d) (hf : (d.fill xs).length = d.np) (s : Sto) : run tb wf k f (d.fill xs) s = run tb wf k f xs s := by
  cases k with
  | zero => rfl
  | succ k =>
    unfold run
    rw [hd]
    simp only
    rw [fill_fill hf]
theorem pe_call_ {tb : Tab} {wf k : Nat} {fs : Env → Sto → R (List D)} {x : Str} {p : Pos} {y : Expr} {ys : List Expr} (cx : CtxA g tb wf k W X) (hg : Gl X x) (hx : okNm x = true) (har : arB tb x (ys.length + 1) = true) (ha : PA X (y :: ys) (tA g W fs))
    (hlen : ∀ ρ s ds s', fs ρ s = .ok ds s' → ds.length = ys.length + 1)
    (he : starEach (y :: ys) X.env = (false, eval y X.env) :: starEach ys X.env) (hpl : (backTo pos (starEach ys X.env)).any (·.1) = false) :
    PE X (.Call (.Name x p) (y :: ys) [] pos) (tE g W fun ρ s => (fs ρ s).bind fun xs s => run tb wf k x xs s) := by
  have hdb : (x == ("__debug__" : Str)) = false := by
    unfold okNm at hx
    simp only [Bool.and_eq_true, Bool.not_eq_true'] at hx
    exact hx.1
  unfold arB at har
  cases hd : tb x with
  | none => rw [hd] at har; cases har
  | some d =>
    rw [hd] at har
    simp only [Bool.and_eq_true, decide_eq_true_eq, Option.isNone_iff_eq_none] at har
    obtain ⟨hmt, har⟩ := har
    obtain ⟨fa, fd, ps, F, hps, hpl', hb⟩ := (cx.calls x d hd).ok
    obtain ⟨hm, hk⟩ : X.mg x = some (.ref fa) ∧ PySem.W.keepIn g.K (.ref fa) = true := by
      unfold Placed at hpl'
      rw [hmt] at hpl'
      exact hpl'
    obtain ⟨dv, dvs, B, hv, hrd⟩ := hb (ys.length + 1) har.1 har.2
    rw [← cx.hK] at B hk
    refine PE.imp (pe_callSD (E := fun σ c d H => W c d σ H) (by rw [cx.hK]; exact F) (cx.room.mono (by omega)) hg hm hk B hv (fun σ => passAt cx.tk σ) ha hdb he hpl) fun σ H Q ⟨ι, ρ, s, re, rs, w⟩ => ?_
    refine ⟨ι, ρ, s, re, rs, Wp.step0 (RA := rlDs g) w fun ds s1 ι1 H1 vs h1 x1 rs1 rds w0 => ?_⟩
    have hl := hlen _ _ _ _ h1
    have efill : d.fill ds = ds ++ d.dv.drop (d.dv.length + (ys.length + 1) - d.np) := by unfold Fn.fill; rw [hl]
    have flen : (d.fill ds).length = d.np := by
      rw [efill, List.length_append, List.length_drop, hl]
      omega
    have rds2 : RDs g ι1 H1 (d.fill ds) (vs ++ dvs) := by rw [efill]; exact RDs.append rds (hrd ι1 H1)
    refine ⟨ι1, s1, d.fill ds, rs1, rds2, by rw [← rds2.length, flen], ?_⟩
    rw [callee hd flen]
    have w1 := Wp.shift w0 x1
    cases hr : run tb wf k x ds s1 with
    | ok a s' => rw [hr] at w1; exact w1
    | ex e s' => rw [hr] at w1; exact w1
    | bad => rw [hr] at w1; exact w1
/-- a built-in's call -/
theorem pe_bi_ {tb : Tab} {wf k : Nat} {fs : Env → Sto → R (List T)} {f : Bi} {p : Pos} {y : Expr} {ys : List Expr} (cx : CtxA g tb wf k W X) (hg : Gl X (biName f)) (ha : PA X (y :: ys) (tAT g W fs))
    (he : starEach (y :: ys) X.env = (false, eval y X.env) :: starEach ys X.env) (hpl : (backTo pos (starEach ys X.env)).any (·.1) = false) :
    PE X (.Call (.Name (biName f) p) (y :: ys) [] pos) (tE g W fun ρ s => (fs ρ s).bind fun xs s => ofO (biT f xs s) s) := by
  have key : PE X (.Call (.Name (biName f) p) (y :: ys) [] pos) (tCB (rOB g f) (tAT g W fs)) := by
    have hc := bi_ok (X := X) cx.hK cx.calm f
    have hb := biBoot f
    have hm := cx.mgB f
    have h1 : biName f ≠ "__name__" := by cases f <;> decide +kernel
    have h2 : (biName f == ("__debug__" : Str)) = false := by cases f <;> decide +kernel
    cases f <;> first
      | exact pe_callB hc hg hm hb ha h1 h2 he hpl
      | exact pe_callTy hc hg hm hb ha h1 h2 he hpl
  refine PE.imp key fun σ H Q ⟨ι, ρ, s, re, rs, w⟩ => ⟨ι, ρ, s, re, rs, Wp.step (RA := rlTs g) w fun ts s1 ι1 H1 vs x1 rs1 rts w1 => ?_⟩
  exact ⟨ι1, s1, ts, rs1, rts, w1.opt⟩

/-! ### what is walked -/
theorem pi_seq_ {tg : Expr} (hK : X.K = g.K) (ha : PE X e (tE g W fa)) : PI X tg e (tI g W fun ρ s => (fa ρ s).bind fun t s => ofO (itemsOf t s) s) :=
  PI.imp (pi_seq ha) fun σ H R ⟨ι, ρ, s, re, rs, w⟩ => ⟨ι, ρ, s, re, rs, Wp.step (RA := rlT g) w fun t s1 ι1 H1 v x1 rs1 r1 w1 => by
    obtain ⟨I, e, q⟩ := w1.opt
    obtain ⟨a, ev, ht, hl⟩ := src_ok rs1 r1.1 e
    subst ev
    refine ⟨a, rfl, ?_⟩
    -- its lists stand now
    have st : stands I.src s1 = true := by
      unfold itemsOf at e
      split at e
      · cases e; rfl
      · cases e; rfl
      · cases e; rfl
      · simp only [Option.map_eq_some_iff] at e
        obtain ⟨xs, e1, rfl⟩ := e
        simp [stands, e1]
      · cases e
    by_cases hx : ∃ xs, t = .v (.tup xs)
    · obtain ⟨vs, hq, _⟩ := ht hx ι1 H1 s1 Ext.refl rs1 st
      rw [hK]
      exact .inr ⟨⟨vs, hq⟩, q ι1 H1 _ Ext.refl rs1 (walks_tup (ht hx))⟩
    · have hx' : ∀ xs, t ≠ .v (.tup xs) := fun xs h => hx ⟨xs, h⟩
      obtain ⟨vs, hq, _⟩ := hl hx' ι1 H1 s1 Ext.refl rs1 st
      rw [hK]
      exact .inl ⟨⟨vs, hq⟩, q ι1 H1 _ Ext.refl rs1 (walks_list (hl hx'))⟩⟩
theorem RDs.one {d : D} {vs : List V} (r : RDs g ι H [d] vs) : ∃ v, vs = [v] ∧ RD g ι H d v := by
  cases r with | cons r t => cases t; exact ⟨_, rfl, r⟩
theorem RDs.two {d d' : D} {vs : List V} (r : RDs g ι H [d, d'] vs) : ∃ v w, vs = [v, w] ∧ RD g ι H d v ∧ RD g ι H d' w := by
  cases r with | cons r t => cases t with | cons r' t => cases t; exact ⟨_, _, rfl, r, r'⟩
theorem pi_rng1_ {tg : Expr} {p : Pos} {fs : Env → Sto → R (List D)} {y : Expr} (hg : Gl X "range") (hm : X.mg "range" = none) (ha : PA X [y] (tA g W fs)) (hl : ∀ ρ s ds s', fs ρ s = .ok ds s' → ds.length = 1) (hs : starEach [y] X.env = [(false, eval y X.env)]) :
    PI X tg (.Call (.Name "range" p) [y] [] pos) (tI g W fun ρ s => (fs ρ s).bind fun xs s => ofO (rangeOf xs) s) :=
  PI.imp (pi_range1 hg hm ha hs) fun σ H R ⟨ι, ρ, s, re, rs, w⟩ => ⟨ι, ρ, s, re, rs, Wp.step0 (RA := rlDs g) w fun ds s1 ι1 H1 vs h1 x1 rs1 rds w0 => by
    obtain ⟨I, e, q⟩ := (Wp.shift w0 x1).opt
    match ds, hl _ _ _ _ h1, e with
    | [.int j], _, e =>
      obtain ⟨v, rfl, r⟩ := RDs.one rds
      cases r.int_
      have e' : rangeD 0 j = some I := e
      have bd : -(2 ^ 62) ≤ j ∧ j < 2 ^ 62 := by
        unfold rangeD at e'
        split at e'
        · rename_i hc; have h2 := hc.2; constructor <;> omega
        · cases e'
      exact ⟨j, rfl, bd.1, bd.2, q ι1 H1 _ Ext.refl rs1 (walks_rng e' (by simp))⟩
    | [.non], _, e | [.bl _], _, e | [.str _], _, e | [.tup _], _, e | [.fro _], _, e | [.loc _], _, e | [.ty _], _, e | [.gl _], _, e => cases e⟩
theorem pi_rng2_ {tg : Expr} {p : Pos} {fs : Env → Sto → R (List D)} {y z : Expr} (hg : Gl X "range") (hm : X.mg "range" = none) (ha : PA X [y, z] (tA g W fs)) (hl : ∀ ρ s ds s', fs ρ s = .ok ds s' → ds.length = 2)
    (hs : starEach [y, z] X.env = [(false, eval y X.env), (false, eval z X.env)]) (hs2 : starEach [z] X.env = [(false, eval z X.env)]) :
    PI X tg (.Call (.Name "range" p) [y, z] [] pos) (tI g W fun ρ s => (fs ρ s).bind fun xs s => ofO (rangeOf xs) s) :=
  PI.imp (pi_range2 hg hm ha hs hs2) fun σ H R ⟨ι, ρ, s, re, rs, w⟩ => ⟨ι, ρ, s, re, rs, Wp.step0 (RA := rlDs g) w fun ds s1 ι1 H1 vs h1 x1 rs1 rds w0 => by
    obtain ⟨I, e, q⟩ := (Wp.shift w0 x1).opt
    match ds, hl _ _ _ _ h1, e with
    | [a, b], _, e =>
      obtain ⟨i, j, rfl, rfl⟩ : ∃ i j, a = .int i ∧ b = .int j := by
        cases a <;> cases b <;> first | exact ⟨_, _, rfl, rfl⟩ | cases e
      obtain ⟨v, w, rfl, r, r'⟩ := RDs.two rds
      cases r.int_
      cases r'.int_
      have e' : rangeD i j = some I := e
      have bd : -(2 ^ 62) ≤ i ∧ i < 2 ^ 62 ∧ -(2 ^ 62) ≤ j ∧ j < 2 ^ 62 := by
        unfold rangeD at e'
        split at e'
        · rename_i hc; obtain ⟨h1, h2⟩ := hc; refine ⟨?_, ?_, ?_, ?_⟩ <;> omega
        · cases e'
      exact ⟨i, j, rfl, bd, q ι1 H1 _ Ext.refl rs1 (walks_rng e' rfl)⟩⟩
end
end Fy
end
section
set_option Elab.async false
set_option linter.all false
set_option maxRecDepth 100000
set_option maxHeartbeats 4000000
/-! Fz2: enumerate of a tuple. -/
namespace Fy
open PySem PySem.Spec PyProof.Rows L2
theorem new_enumT (l : Addr) (its : Array Value) (n : Nat) (dct : Option Addr) (sl : Array (Option Value)) :
    Meets (Builtin.«enumerate.__new__» ⟨[.type "enumerate", .ref l], []⟩) (fun _ R s => s.heap.get? l = some { cls := .type "tuple", dict := dct, data := .seq its n, slots := sl } ∧
      R (.ok (.ret (.ref (s.heap.push { cls := .type "tuple_iterator", data := .fields #[.ref l, .int 0 0] }).objs.size)))
        { s with heap := (s.heap.push { cls := .type "tuple_iterator", data := .fields #[.ref l, .int 0 0] }).push { cls := .type "enumerate", data := .fields #[.none, .bool false, .ref s.heap.objs.size, rawInt 0, .none, .none] } }) :=
  .of_wp fun prog w A R s h => by
    obtain ⟨hp, g, d, tk, os⟩ := s
    obtain ⟨hl, h⟩ := h
    have hsub := sub_enumerate
    have hT : Heap.IsTuple (Shared.heap ⟨hp, g, d, tk, os⟩) l its := ⟨_, hl, rfl, n, rfl⟩
    wp_walk using AutoSeq1.wpAny_loadPart' hl
    refine wpAny_stack_any fun st => wpAny_pure ?_
    split
    · rename_i c _ _ _ _ _
      cases (c == Value.type "enumerate") <;> (wp_walk using AutoSeq1.wpAny_loadPart' hl, wpAny_pyIter_tuple hT; exact ⟨_, rfl, h⟩)
    · wp_walk using AutoSeq1.wpAny_loadPart' hl, wpAny_pyIter_tuple hT
      exact ⟨_, rfl, h⟩
section
variable {prog : Program} {w : World} {A : Around} {E : Value → Shared → Prop} {s : Shared}
theorem call_enumT {l : Addr} {its : Array Value} {Q : Value → Shared → Prop} (hT : s.heap.IsTuple l its)
    (h : ∀ h', IsEnum h' (s.heap.objs.size + 1) s.heap.objs.size 0 .none → h'.IsTupleIter s.heap.objs.size l 0 →
      (∀ b o, s.heap.get? b = some o → h'.get? b = some o) → Q (.ref (s.heap.objs.size + 1)) { s with heap := h' }) :
    wpAny (model prog w) A (call (.type "enumerate") [.ref l]) Q E s := by
  obtain ⟨⟨c, dct, dt, sl⟩, hl, hc, n, hd⟩ := hT
  obtain rfl : c = .type "tuple" := hc
  obtain rfl : dt = .seq its n := hd
  refine callType_new F.called_enumerate (by decide) (F.typeCall_enumerate_1 _) (F.newCall_enumerate_1 _) (fun obj => F.args_object_init_2 obj _) F.entry_enumerate_new
    (new_enumT l its n dct sl) ⟨hl, ?_⟩
  generalize hp1 : s.heap.push { cls := .type "tuple_iterator", data := .fields #[.ref l, .int 0 0] } = p1
  have hz : p1.objs.size = s.heap.objs.size + 1 := by rw [← hp1]; exact Heap.size_push ..
  show _ ∧ _
  rw [hz]
  have he := Heap.get?_push_size p1 (o := { cls := .type "enumerate", data := .fields #[.none, .bool false, .ref s.heap.objs.size, rawInt 0, .none, .none] }) rfl
  rw [hz] at he
  have hi : p1.get? s.heap.objs.size = some { cls := .type "tuple_iterator", data := .fields #[.ref l, .int 0 0] } := by rw [← hp1]; exact Heap.get?_push_size _ rfl
  refine ⟨⟨_, he, rfl⟩, h _ he ⟨_, Heap.get?_push_of_some _ hi, rfl, rfl⟩ fun b o x => Heap.get?_push_of_some _ ?_⟩
  rw [← hp1]
  exact Heap.get?_push_of_some _ x
end
/-- a tuple's iterator at its end -/
theorem draws_end {prog : Program} {w : World} {A : Around} (hh : A.handled = none) (it t : Addr) (its : Array Value) (n : Nat) (hn : its.size ≤ n) :
    Draws prog w A it [it, t] n (fun _ _ => True) (fun i h => h.IsTupleIter it t i ∧ h.IsTuple t its ∧ i = n) where
  live := fun _ _ st => let ⟨o, ho, _⟩ := st.1; ⟨o, ho⟩
  frame := fun _ _ _ st hk => ⟨st.1.at fun o e => hk it (by simp) o e, st.2.1.at fun o e => hk t (by simp) o e, st.2.2⟩
  item := fun i s Q E hi st hQ => absurd st.2.2 (Nat.ne_of_lt hi)
  done := fun s Q E st hE => wpAny_nextOf_tuple_end hh st.1 st.2.1 (by simp; omega) hE
/-- the tuple at a, each item in a new pair -/
def Iet (K : PySem.W.Frag) (a : Addr) : L2.It :=
  ⟨fun i H => ∃ (xs : List V) (x : V), SqT K H a xs ∧ xs[i]? = some x, fun i H v H' => ∃ T x, v = .ref T ∧ H T = none ∧ H' = upd H T (.tup [.int (i : Nat), x]) ∧ ∀ xs, SqT K H a xs → xs[i]? = some x, fun i H => ∃ xs : List V, SqT K H a xs ∧ xs.length ≤ i⟩
theorem turn_enumT {P : Program} {w : World} {K : PySem.W.Frag} {elts : List Expr} {kk : Nat} {tpos : Pos} (a e it : Addr) :
    Turn P w K (.Tuple elts kk tpos) (Iet K a) [e, it] e (fun i h => (∃ old, IsEnum h e it ((i : Nat) : Int) old) ∧ h.IsTupleIter it a i ∧ e ≠ it) where
  mem := by simp
  obj := fun i h st b hb => by
    obtain ⟨⟨old, he⟩, ⟨o, ho, hc, hd⟩, _⟩ := st
    rcases (by simpa using hb : b = e ∨ b = it) with rfl | rfl
    · exact ⟨_, he, fun v q => nomatch q⟩
    · exact ⟨o, ho, fun v q => by rw [hd] at q; cases q⟩
  keep := fun i h h' ⟨⟨old, he⟩, hi, hne⟩ k => ⟨⟨old, k e (by simp) _ he⟩, hi.at fun o q => k it (by simp) o q, hne⟩
  item := by
    intro X hP hw hK hc i pins s σ H E I hf st hg
    subst hP hw hK
    obtain ⟨⟨old, he⟩, hit, hne⟩ := st
    obtain ⟨xs, x, hq, hx⟩ := hg
    obtain ⟨its, rv, p, hz⟩ := I.tuple hq
    have hT : s.heap.IsTuple a its.toArray := p
    obtain ⟨u, hu, ru⟩ := rv.get hx
    have hel : e < s.heap.objs.size := Heap.lt_size he
    have hil : it < s.heap.objs.size := by obtain ⟨_, q, _⟩ := hit; exact Heap.lt_size q
    have hai : a ≠ it := by
      rintro rfl
      obtain ⟨o1, q1, _, d1⟩ := hit
      obtain ⟨o2, q2, _, n2, d2⟩ := hT
      rw [q1] at q2; cases q2
      rw [d1] at d2; cases d2
    have hea : e ≠ a := by
      rintro rfl
      obtain ⟨o2, q2, _, n2, d2⟩ := hT
      have z : some _ = some o2 := he.symm.trans q2
      cases z
      cases d2
    have hlt : i < its.toArray.size := by
      have := (List.getElem?_eq_some_iff.mp hu).1
      simpa using this
    refine wpAny_pyNext_enum_itemD (Draws.tuple (A := X.A.in1) (I.ok.hd hc) it a hai its.toArray) he ⟨hit, hT⟩ hlt hne (by simp [hne, hea]) fun y h' tk hy ho st' hN hsz hk => ?_
    have ey : y = u := by
      have z : its.toArray[i]? = some y := hy
      rw [List.getElem?_toArray, hu] at z
      exact (Option.some.inj z).symm
    subst ey
    refine ⟨_, rfl, wpAny_letOwnedTupleGo_enum (s := { s with heap := h', toks := tk + 1 }) ho fun h'' he' sb => ?_⟩
    have hT2 : h''.get? s.heap.objs.size = some { cls := .type "tuple", data := .seq #[.int i tk, y] } := (sb.2 _ (Nat.ne_of_gt hel)).trans hN
    have new : ObjOk X.prog X.w (upd H s.heap.objs.size (.tup [.int (i : Nat), x])) h'' s.heap.objs.size (.tup [.int (i : Nat), x]) :=
      ⟨by show 2 ≤ sizeLine; decide, [.int i tk, y], .cons ⟨_, rfl⟩ (.cons ru .nil), ⟨_, hT2, rfl, _, rfl⟩⟩
    have I1 : Inv X pins σ (upd H s.heap.objs.size (.tup [.int (i : Nat), x])) { s with heap := h'', toks := tk + 1 } :=
      I.turnedNew (ch := [e, it]) (fun b ob hb q => (sb.2 b fun z => hb (by simp [z])).trans (hk b ob (fun z => hb (by simp [z])) (fun z => hb (by simp [z])) q)) hf (Nat.le_refl _) new
    refine ⟨.ref s.heap.objs.size, _, I1, rfl, ⟨_, x, rfl, I.hok.fresh (Nat.le_refl _), rfl, fun ys hy' => by rw [I.tuple_inj hy' hq]; exact hx⟩, ⟨⟨y, ?_⟩, st'.1.at fun o q => (sb.2 it (Ne.symm hne)).trans q, hne⟩, fun b hb => ?_⟩
    · rw [show ((i + 1 : Nat) : Int) = (i : Int) + 1 by omega]
      exact he'
    · have hb' : b < s.heap.objs.size := by
        rcases (by simpa using hb : b = e ∨ b = it) with rfl | rfl
        · exact hel
        · exact hil
      rw [upd_ne (Nat.ne_of_lt hb')]
      exact (hf b hb).1
  done := by
    intro X hP hw hK hc i pins s σ H E I hf st hg
    subst hP hw hK
    obtain ⟨⟨old, he⟩, hit, hne⟩ := st
    obtain ⟨xs, hq, hx⟩ := hg
    obtain ⟨its, rv, p, hz⟩ := I.tuple hq
    have hT : s.heap.IsTuple a its.toArray := p
    obtain ⟨f0, f1, f2, f3, f4, f5⟩ := hf it (by simp)
    have hl := rv.length
    exact wpAny_pyNext_enum_endD (draws_end (A := X.A.in1) (I.ok.hd hc) it a its.toArray i (by simp; omega)) he ⟨hit, hT, rfl⟩ fun h' eb => ⟨rfl, I.turned (t' := s.toks) (fun b o hb q => eb b o hb q) f0 f1 f3 f4 f5⟩
  self := fun A i s Q E ⟨⟨_, he⟩, _⟩ h => wpAny_pyIter_enum he h
def iEnumT (K : PySem.W.Frag) (ta : TA) : TI := fun σ H R => ta σ H fun vs H1 => ∃ a xs, vs = [.ref a] ∧ ((SqL K H1 a xs ∧ R (Ite K a) H1) ∨ (SqT K H1 a xs ∧ R (Iet K a) H1))
theorem pi_enumT {X : Cx} {e : Expr} {ta : TA} {p pos tpos : Pos} {elts : List Expr} {kk : Nat} (hg : Gl X "enumerate") (hm : X.mg "enumerate" = none) (ha : PA X [e] ta) (hs : starEach [e] X.env = [(false, eval e X.env)]) :
    PI X (.Tuple elts kk tpos) (.Call (.Name "enumerate" p) [e] [] pos) (iEnumT X.K ta) := by
  refine ⟨fun pins s σ H R I h => ?_⟩
  refine Call_ (ld_blt I hg hm boot_enumerate (PyProof.Rows.callWith_type1 (thn (ha.run pos pins s σ H _ I h) fun us s1 ⟨vs, H1, I1, r1, q1⟩ => ?_) hs rfl))
  obtain ⟨a, xs, rfl, q⟩ := q1
  cases r1 with
  | cons r rr =>
    cases rr
    cases r
    have two : ∀ b, b ∈ [s1.heap.objs.size + 1, s1.heap.objs.size] → FpOk X pins H1 b := fun b hb => by
      have hle : s1.heap.objs.size ≤ b := by
        rcases (by simpa using hb : b = s1.heap.objs.size + 1 ∨ b = s1.heap.objs.size) with z | z
        · rw [z]; exact Nat.le_add_right _ _
        · rw [z]; exact Nat.le_refl _
      exact I1.fpOk hle (I1.hok.fresh hle)
    rcases q with ⟨hq, q⟩ | ⟨hq, q⟩
    · obtain ⟨its, rv, p', hz⟩ := I1.list hq
      refine call_enumerate_list p'.isList fun h' he hit hsz hk => wpAny_pyIter_enum he ?_
      exact ⟨s1.heap.objs.size + 1, [s1.heap.objs.size + 1, s1.heap.objs.size], _, _, H1, rfl, I1.kept (t' := s1.toks) hk, turn_enum a (s1.heap.objs.size + 1) s1.heap.objs.size, ⟨⟨.none, he⟩, hit, Nat.succ_ne_self _⟩, two, q⟩
    · obtain ⟨its, rv, p', hz⟩ := I1.tuple hq
      refine call_enumT (show s1.heap.IsTuple a its.toArray from p') fun h' he hit hk => wpAny_pyIter_enum he ?_
      exact ⟨s1.heap.objs.size + 1, [s1.heap.objs.size + 1, s1.heap.objs.size], _, _, H1, rfl, I1.kept (t' := s1.toks) hk, turn_enumT a (s1.heap.objs.size + 1) s1.heap.objs.size, ⟨⟨.none, he⟩, hit, Nat.succ_ne_self _⟩, two, q⟩
end Fy
end
section
set_option Elab.async false
set_option linter.all false
set_option maxRecDepth 100000
set_option maxHeartbeats 4000000
/-! Fz9: zip of a tuple and a list. -/
namespace Fy
open PySem PySem.Spec PyProof.Rows L2
/-- a list's iterator at its end -/
theorem draws_endL {prog : Program} {w : World} {A : Around} (hh : A.handled = none) (it t : Addr) (its : Array Value) (n : Nat) (hn : its.size ≤ n) :
    Draws prog w A it [it, t] n (fun _ _ => True) (fun i h => h.IsListIter it t i ∧ h.IsList t its ∧ i = n) where
  live := fun _ _ st => let ⟨o, ho, _⟩ := st.1; ⟨o, ho⟩
  frame := fun _ _ _ st hk => ⟨st.1.at fun o e => hk it (by simp) o e, st.2.1.at fun o e => hk t (by simp) o e, st.2.2⟩
  item := fun i s Q E hi st hQ => absurd st.2.2 (Nat.ne_of_lt hi)
  done := fun s Q E st hE => wpAny_nextOf_list_end hh st.1 st.2.1 (by simp; omega) hE
/-- the tuple at a, the list at b, their items in new pairs -/
def Itm (K : PySem.W.Frag) (a b : Addr) : L2.It :=
  ⟨fun i H => ∃ (xs ys : List V) (x y : V), SqT K H a xs ∧ SqL K H b ys ∧ xs[i]? = some x ∧ ys[i]? = some y,
    fun i H v H' => ∃ T x y, v = .ref T ∧ H T = none ∧ H' = L2.upd H T (.tup [x, y]) ∧ (∀ xs, SqT K H a xs → xs[i]? = some x) ∧ ∀ ys, SqL K H b ys → ys[i]? = some y,
    fun i H => ∃ xs ys : List V, SqT K H a xs ∧ SqL K H b ys ∧ (xs.length ≤ i ∨ ys.length ≤ i)⟩
abbrev zmState (a b z TI TO i1 i2 : Addr) (i : Nat) (h : Heap) : Prop :=
  IsZip h z TI TO .none ∧ IsTupOf2 h TI (.ref i1) (.ref i2) ∧ (∃ x y, IsTupOf2 h TO x y) ∧ h.IsTupleIter i1 a i ∧ h.IsListIter i2 b i
theorem five {c z TI TO i1 i2 : Addr} (h : c ∈ [z, TI, TO, i1, i2]) : c = z ∨ c = TI ∨ c = TO ∨ c = i1 ∨ c = i2 := by simpa using h
theorem not5 {c z TI TO i1 i2 : Addr} (h : c ∉ [z, TI, TO, i1, i2]) : c ≠ z ∧ c ≠ TI ∧ c ≠ TO ∧ c ≠ i1 ∧ c ≠ i2 := by simpa using h
theorem zm_lt {a b z TI TO i1 i2 : Addr} {i : Nat} {h : Heap} (st : zmState a b z TI TO i1 i2 i h) {c : Addr} (m : c ∈ [z, TI, TO, i1, i2]) : c < h.objs.size := by
  obtain ⟨e1, e2, ⟨_, _, e3⟩, ⟨_, e4, _⟩, ⟨_, e5, _⟩⟩ := st
  rcases five m with rfl | rfl | rfl | rfl | rfl
  · exact Heap.lt_size e1
  · exact Heap.lt_size e2
  · exact Heap.lt_size e3
  · exact Heap.lt_size e4
  · exact Heap.lt_size e5
theorem turn_zipM {P : Program} {w : World} {K : PySem.W.Frag} {elts : List Expr} {kk : Nat} {tpos : Pos} {a b z TI TO i1 i2 : Addr} (S : ZipSep2 z TI TO i1 i2 [i1, a] [i2, b]) (ha : a ≠ i1) (hb : b ≠ i2) (z1 : i1 ≠ z) (z2 : i2 ≠ z) :
    Turn P w K (.Tuple elts kk tpos) (Itm K a b) [z, TI, TO, i1, i2] z (zmState a b z TI TO i1 i2) where
  mem := List.mem_cons_self ..
  obj := fun i h ⟨e1, e2, ⟨x, y, e3⟩, ⟨o4, e4, _, d4⟩, ⟨o5, e5, _, d5⟩⟩ c hc => by
    rcases five hc with rfl | rfl | rfl | rfl | rfl
    · exact ⟨_, e1, fun _ q => nomatch q⟩
    · exact ⟨_, e2, fun _ q => nomatch q⟩
    · exact ⟨_, e3, fun _ q => nomatch q⟩
    · exact ⟨o4, e4, fun v q => by rw [d4] at q; cases q⟩
    · exact ⟨o5, e5, fun v q => by rw [d5] at q; cases q⟩
  keep := fun i h h' ⟨e1, e2, ⟨x, y, e3⟩, e4, e5⟩ k =>
    ⟨k z (by simp) _ e1, k TI (by simp) _ e2, ⟨x, y, k TO (by simp) _ e3⟩, e4.at fun o => k i1 (by simp) o, e5.at fun o => k i2 (by simp) o⟩
  item := by
    intro X eP ew eK hc i pins sh σ H E I hf st hg
    subst eP ew eK
    obtain ⟨xs, ys, x, y, qx, qy, gx, gy⟩ := hg
    obtain ⟨its, rv, p1, _⟩ := I.tuple qx
    obtain ⟨jts, rw_, p2, _⟩ := I.list qy
    obtain ⟨u, hu, ru⟩ := rv.get gx
    obtain ⟨v, hv, rv2⟩ := rw_.get gy
    have lt1 := (List.getElem?_eq_some_iff.mp hu).1
    have lt2 := (List.getElem?_eq_some_iff.mp hv).1
    have lts := fun {c : Addr} => zm_lt (c := c) st
    obtain ⟨e1, e2, ⟨x0, y0, e3⟩, e4, e5⟩ := st
    refine wpAny_pyNext_zipD2_item S (Draws.tuple (A := X.A.in1) (I.ok.hd hc) i1 a ha its.toArray) (Draws.list (A := X.A.in1) (I.ok.hd hc) i2 b hb jts.toArray) e1 e2 e3 ⟨e4, p1⟩ ⟨e5, p2.isList⟩ (by simpa using lt1) (by simpa using lt2) fun u' v' h' tk hu' hv' f1 f2 f3 f4 f5 f6 hk => ?_
    have eu : u' = u := by
      have q : its.toArray[i]? = some u' := hu'
      rw [List.getElem?_toArray, hu] at q
      exact (Option.some.inj q).symm
    have ev : v' = v := by
      have q : jts.toArray[i]? = some v' := hv'
      rw [List.getElem?_toArray, hv] at q
      exact (Option.some.inj q).symm
    subst eu ev
    refine ⟨_, rfl, wpAny_letOwnedTupleGo_zip (s := { sh with heap := h', toks := tk }) f1 fun h'' f1' sb => ?_⟩
    have zl := lts (c := z) (by simp)
    have pr : h''.get? sh.heap.objs.size = some { cls := .type "tuple", data := .seq #[u', v'] } := (sb.2 _ (Nat.ne_of_gt zl)).trans f5
    have new : L2.ObjOk X.prog X.w (L2.upd H sh.heap.objs.size (.tup [x, y])) h'' sh.heap.objs.size (.tup [x, y]) :=
      ⟨(by rw [sizeLine_eq]; decide : 2 ≤ sizeLine), [u', v'], .cons ru (.cons rv2 .nil), _, pr, rfl, _, rfl⟩
    have J : Inv X pins σ (L2.upd H sh.heap.objs.size (.tup [x, y])) { sh with heap := h'', toks := tk } :=
      I.turnedNew (t' := tk) (ch := [z, TI, TO, i1, i2]) (fun c o m q => by
        obtain ⟨n1, n2, n3, n4, n5⟩ := not5 m
        exact (sb.2 c n1).trans (hk c o n1 n3 n4 n5 q)) hf (Nat.le_refl _) new
    have eTI : IsTupOf2 h'' TI (.ref i1) (.ref i2) := (sb.2 _ S.TIz).trans (hk _ _ S.TIz S.TITO S.TIi1 S.TIi2 e2)
    refine ⟨.ref sh.heap.objs.size, _, J, rfl, ⟨_, x, y, rfl, I.hok.fresh (Nat.le_refl _), rfl, fun l hl => by rw [I.tuple_inj hl qx]; exact gx, fun l hl => by rw [I.list_inj hl qy]; exact gy⟩,
      ⟨f1', eTI, ⟨_, _, (sb.2 _ S.TOz).trans f2⟩, f3.1.at fun o q => (sb.2 _ z1).trans q, f4.1.at fun o q => (sb.2 _ z2).trans q⟩, fun c m => ?_⟩
    rw [upd_ne (Nat.ne_of_lt (lts m))]
    exact (hf c m).1
  done := by
    intro X eP ew eK hc i pins sh σ H E I hf st hg
    subst eP ew eK
    obtain ⟨xs, ys, qx, qy, hend⟩ := hg
    obtain ⟨its, rv, p1, _⟩ := I.tuple qx
    obtain ⟨jts, rw_, p2, _⟩ := I.list qy
    obtain ⟨e1, e2, ⟨x0, y0, e3⟩, e4, e5⟩ := st
    have l1 := rv.length
    have l2 := rw_.length
    have hh : X.A.in1.handled = none := I.ok.hd hc
    have fin : ∀ (h' : Heap) (tk : Nat), (∀ c o, c ≠ z → c ≠ TO → c ≠ i1 → c ≠ i2 → sh.heap.get? c = some o → h'.get? c = some o) → (none : Option Value) = none ∧ Inv X pins σ H { sh with heap := h', toks := tk } := fun h' tk hk =>
      ⟨rfl, I.turnedL (t' := tk) (ch := [z, TI, TO, i1, i2]) (fun c o m q => by
        obtain ⟨n1, n2, n3, n4, n5⟩ := not5 m
        exact hk c o n1 n3 n4 n5 q) hf⟩
    by_cases h1 : its.length ≤ i
    · by_cases h2 : jts.length ≤ i
      · exact wpAny_pyNext_zipD2_end S (draws_end hh i1 a its.toArray i (by simpa using h1)) (draws_endL hh i2 b jts.toArray i (by simpa using h2)) e1 e2 e3 ⟨e4, p1, rfl⟩ ⟨e5, p2.isList, rfl⟩ (Nat.le_refl _) (Nat.le_refl _) (.inl rfl) fin
      · exact wpAny_pyNext_zipD2_end S (draws_end hh i1 a its.toArray i (by simpa using h1)) (Draws.list hh i2 b hb jts.toArray) e1 e2 e3 ⟨e4, p1, rfl⟩ ⟨e5, p2.isList⟩ (Nat.le_refl _) (by simp; omega) (.inl rfl) fin
    · have h2 : jts.length ≤ i := by omega
      exact wpAny_pyNext_zipD2_end S (Draws.tuple hh i1 a ha its.toArray) (draws_endL hh i2 b jts.toArray i (by simpa using h2)) e1 e2 e3 ⟨e4, p1⟩ ⟨e5, p2.isList, rfl⟩ (by simp; omega) (Nat.le_refl _) (.inr rfl) fin
  self := fun A i s Q E st h => wpAny_pyIter_zip st.1 h

/-! ### the call -/
abbrev zm1 (h : Heap) (a : Addr) : Heap := h.push { cls := .type "tuple_iterator", data := .fields #[.ref a, .int 0 0] }
abbrev zm2 (h : Heap) (a b : Addr) : Heap := (zm1 h a).push { cls := .type "list_iterator", data := .fields #[.ref b, .int 0 0] }
abbrev zm3 (h : Heap) (a b : Addr) : Heap := (zm2 h a b).push { cls := .type "tuple", data := .seq #[.ref h.objs.size, .ref (zm1 h a).objs.size] }
abbrev zm4 (h : Heap) (a b : Addr) : Heap := (zm3 h a b).push { cls := .type "tuple", data := .seq #[.none, .none] }
abbrev zm5 (h : Heap) (a b : Addr) : Heap := (zm4 h a b).push { cls := .type "zip", data := .fields #[.none, .bool false, .bool false, .ref (zm2 h a b).objs.size, .ref (zm3 h a b).objs.size] }
theorem new_zipM (a b : Addr) (xs ys : Array Value) :
    Meets (Builtin.«zip.__new__» ⟨[.type "zip", .ref a, .ref b], []⟩) (fun _ R s => s.heap.IsTuple a xs ∧ s.heap.IsList b ys ∧ R (.ok (.ret (.ref (zm4 s.heap a b).objs.size))) { s with heap := zm5 s.heap a b }) :=
  .of_wp fun prog w A R s ⟨q1, q2, h⟩ => by
    obtain ⟨hp, g, d, tk, os⟩ := s
    have hsub := sub_zip
    have t1 : Heap.IsTuple (Shared.heap ⟨hp, g, d, tk, os⟩) a xs := q1
    have t2 : Heap.IsList (Shared.heap ⟨zm1 hp a, g, d, tk, os⟩) b ys := Heap.IsList.push q2 _
    wp_walk using wpAny_pyIter_tuple t1, wpAny_pyIter_list t2
    exact ⟨_, rfl, h⟩
section
variable {prog : Program} {w : World} {A : Around} {E : Value → Shared → Prop} {s : Shared}
theorem call_zipM {a b : Addr} {xs ys : Array Value} {Q : Value → Shared → Prop} (q1 : s.heap.IsTuple a xs) (q2 : s.heap.IsList b ys)
    (h : ∀ h', zmState a b (s.heap.objs.size + 4) (s.heap.objs.size + 2) (s.heap.objs.size + 3) s.heap.objs.size (s.heap.objs.size + 1) 0 h' → (∀ c o, s.heap.get? c = some o → h'.get? c = some o) → Q (.ref (s.heap.objs.size + 4)) { s with heap := h' }) :
    wpAny (model prog w) A (call (.type "zip") [.ref a, .ref b]) Q E s := by
  refine callType_new F.called_zip (by decide) (F.typeCall_zip_2 _ _) (F.newCall_zip_2 _ _) (fun obj => F.args_object_init_3 obj _ _) F.entry_zip_new (new_zipM a b xs ys) ⟨q1, q2, ?_⟩
  have n1 : (zm1 s.heap a).objs.size = s.heap.objs.size + 1 := Heap.size_push ..
  have n2 : (zm2 s.heap a b).objs.size = s.heap.objs.size + 2 := by rw [Heap.size_push, n1]
  have n3 : (zm3 s.heap a b).objs.size = s.heap.objs.size + 3 := by rw [Heap.size_push, n2]
  have n4 : (zm4 s.heap a b).objs.size = s.heap.objs.size + 4 := by rw [Heap.size_push, n3]
  have up : ∀ {h : Heap} {o : Obj} {c : Addr} {x : Obj}, h.get? c = some x → (h.push o).get? c = some x := fun e => Heap.get?_push_of_some _ e
  have m5 : (zm5 s.heap a b).get? (zm4 s.heap a b).objs.size = some _ := Heap.get?_push_size _ rfl
  have m4 : (zm5 s.heap a b).get? (zm3 s.heap a b).objs.size = some _ := up (Heap.get?_push_size _ rfl)
  have m3 : (zm5 s.heap a b).get? (zm2 s.heap a b).objs.size = some _ := up (up (Heap.get?_push_size _ rfl))
  have m2 : (zm5 s.heap a b).get? (zm1 s.heap a).objs.size = some _ := up (up (up (Heap.get?_push_size _ rfl)))
  have m1 : (zm5 s.heap a b).get? s.heap.objs.size = some _ := up (up (up (up (Heap.get?_push_size _ rfl))))
  show _ ∧ _
  rw [n2, n3, n4] at m5
  rw [n1, n2] at m3
  rw [n3] at m4
  rw [n1] at m2
  rw [n4]
  exact ⟨⟨_, m5, rfl⟩, h _ ⟨m5, m3, ⟨_, _, m4⟩, ⟨_, m1, rfl, rfl⟩, _, m2, rfl, rfl⟩ fun c o x => up (up (up (up (up x))))⟩
end
theorem zm_sep {n a b : Nat} (ha : a < n) (hb : b < n) : ZipSep2 (n + 4) (n + 2) (n + 3) n (n + 1) [n, a] [n + 1, b] := by
  have up : ∀ i j : Nat, i ≠ j → n + i ≠ n + j := fun i j h e => h (Nat.add_left_cancel e)
  have up0 : ∀ i : Nat, 0 < i → n + i ≠ n := fun i h e => by omega
  have oa : ∀ i : Nat, n + i ≠ a := fun i e => by omega
  have ob : ∀ i : Nat, n + i ≠ b := fun i e => by omega
  have two : ∀ {c x y : Nat}, c ≠ x → c ≠ y → c ∉ ([x, y] : List Nat) := fun h1 h2 m => by
    rcases List.mem_cons.mp m with e | m
    · exact h1 e
    · exact h2 (List.mem_singleton.mp m)
  exact ⟨up 2 4 (by decide), up 3 4 (by decide), up 2 3 (by decide), up0 2 (by decide), List.mem_cons_self .., two (up0 4 (by decide)) (oa 4), two (up0 3 (by decide)) (oa 3), up 2 1 (by decide), List.mem_cons_self .., two (up 4 1 (by decide)) (ob 4), two (up 3 1 (by decide)) (ob 3),
    two (fun e => up0 1 (by decide) e.symm) (ob 0), two (up0 1 (by decide)) (oa 1)⟩
theorem nz4 (n : Nat) : n ≠ n + 4 ∧ n + 1 ≠ n + 4 := ⟨by omega, by omega⟩
def iZipM (K : PySem.W.Frag) (ta : TA) : TI := fun σ H R => ta σ H fun vs H1 => ∃ a b xs ys, vs = [.ref a, .ref b] ∧
  ((SqL K H1 a xs ∧ SqL K H1 b ys ∧ R (Itz K a b) H1) ∨ (SqT K H1 a xs ∧ SqT K H1 b ys ∧ R (RZ.ItzT K a b) H1) ∨ (SqT K H1 a xs ∧ SqL K H1 b ys ∧ R (Itm K a b) H1))
theorem pi_zipM {X : Cx} {e e2 : Expr} {ta : TA} {p pos tpos : Pos} {elts : List Expr} {kk : Nat} (hg : Gl X "zip") (hm : X.mg "zip" = none) (ha : PA X [e, e2] ta)
    (hs : starEach [e, e2] X.env = (false, eval e X.env) :: starEach [e2] X.env) (hpl : (backTo pos (starEach [e2] X.env)).any (·.1) = false) :
    PI X (.Tuple elts kk tpos) (.Call (.Name "zip" p) [e, e2] [] pos) (iZipM X.K ta) := by
  constructor
  intro pins s σ H R I h
  refine Call_ (ld_blt I hg hm PyProof.Rows.boot_zip (PyProof.Rows.callWith_type1 (thn (ha.run pos pins s σ H _ I h) fun us s1 hu => ?_) hs hpl))
  obtain ⟨vs, H1, I1, r1, a, b, xs, ys, ev, q⟩ := hu
  subst ev
  obtain ⟨u1, u2, rfl, r, r'⟩ := vals2 r1
  cases r
  cases r'
  have new : ∀ n, n = s1.heap.objs.size → ∀ c, c ∈ [n + 4, n + 2, n + 3, n, n + 1] → FpOk X pins H1 c := fun n en c hc => by
    have le : s1.heap.objs.size ≤ c := by
      rw [← en]
      rcases five hc with rfl | rfl | rfl | rfl | rfl
      · exact Nat.le_add_right _ _
      · exact Nat.le_add_right _ _
      · exact Nat.le_add_right _ _
      · exact Nat.le_refl _
      · exact Nat.le_add_right _ _
    exact I1.fpOk le (I1.hok.fresh le)
  rcases q with ⟨qx, qy, q⟩ | ⟨qx, qy, q⟩ | ⟨qx, qy, q⟩
  · obtain ⟨i1, _, p1, _⟩ := I1.list qx
    obtain ⟨i2, _, p2, _⟩ := I1.list qy
    refine call_zip_2 p1.isList p2.isList fun h' z1 z2 z3 z4 z5 _ hk => wpAny_pyIter_zip z1 ?_
    exact ⟨_, _, _, _, H1, rfl, I1.kept (t' := s1.toks) hk, turn_zip (PySem.W.ktu_apart s1.heap.objs.size a b p1.lt p2.lt), ⟨z1, z2, ⟨_, _, z3⟩, z4, z5⟩, new _ rfl, q⟩
  · obtain ⟨i1, _, p1, _⟩ := I1.tuple qx
    obtain ⟨i2, _, p2, _⟩ := I1.tuple qy
    obtain ⟨_, o1, _⟩ := id p1
    obtain ⟨_, o2, _⟩ := id p2
    refine RZ.call_zipT (xs := i1.toArray) (ys := i2.toArray) p1 p2 fun h' z1 z2 z3 z4 z5 _ hk => wpAny_pyIter_zip z1 ?_
    exact ⟨_, _, _, _, H1, rfl, I1.kept (t' := s1.toks) hk, RZ.turn_zipT (PySem.W.ktu_apart s1.heap.objs.size a b (Heap.lt_size o1) (Heap.lt_size o2)), ⟨z1, z2, ⟨_, _, z3⟩, z4, z5⟩, new _ rfl, q⟩
  · obtain ⟨i1, _, p1, _⟩ := I1.tuple qx
    obtain ⟨i2, _, p2, _⟩ := I1.list qy
    obtain ⟨_, o1, _⟩ := id p1
    have la := Heap.lt_size o1
    have lb := p2.lt
    refine call_zipM (xs := i1.toArray) (ys := i2.toArray) p1 p2.isList fun h' st hk => wpAny_pyIter_zip st.1 ?_
    exact ⟨_, _, _, _, H1, rfl, I1.kept (t' := s1.toks) hk, turn_zipM (zm_sep la lb) (Nat.ne_of_lt la) (Nat.ne_of_lt (Nat.lt_succ_of_lt lb)) (nz4 _).1 (nz4 _).2, st, new _ rfl, q⟩
end Fy
end
section
set_option Elab.async false
set_option linter.all false
set_option maxRecDepth 100000
set_option maxHeartbeats 2000000
/-! FyA: zip, enumerate, comprehensions; all expressions together. -/
namespace Fy
open PySem PySem.Spec PyProof.Rows L2
section
variable {g : Glo} {W : WX} {X : Cx} {σ : L2.St} {ι : List Addr} {H : Hp} {s : Sto} {e a b c : Expr} {f fa fb fc : Env → Sto → R T} {pos : Pos}

theorem stand_now {t : T} {I : Items} (e : itemsOf t s = some I) : stands I.src s = true := by
  unfold itemsOf at e
  split at e
  · cases e; rfl
  · cases e; rfl
  · cases e; rfl
  · simp only [Option.map_eq_some_iff] at e
    obtain ⟨xs, e1, rfl⟩ := e
    simp [stands, e1]
  · cases e
theorem stands_app {a b : List (Nat × List D)} (h : stands (a ++ b) s = true) : stands a s = true ∧ stands b s = true := by
  simpa [stands, List.all_append, Bool.and_eq_true] using h
theorem two_args (F : T → T → Sto → R Items) (ρ : Env) : ((fa ρ s).bind fun x s => (fb ρ s).bind fun y s => F x y s) = (bCons fa (bCons fb bNil) ρ s).bind fun ts s => match ts with | [x, y] => F x y s | _ => .bad := by
  unfold bCons bNil
  cases fa ρ s with
  | ok x s1 =>
    simp only [R.bind_ok]
    cases fb ρ s1 with
    | ok y s2 => rfl
    | ex _ _ => rfl
    | bad => rfl
  | ex _ _ => rfl
  | bad => rfl
theorem one_arg (F : T → Sto → R Items) (ρ : Env) : ((fa ρ s).bind fun x s => F x s) = (bCons fa bNil ρ s).bind fun ts s => match ts with | [x] => F x s | _ => .bad := by
  unfold bCons bNil
  cases fa ρ s with
  | ok x s1 => rfl
  | ex _ _ => rfl
  | bad => rfl
theorem zip_cases {x y : T} {I : Items} (e : zipOf x y s = some I) : (∃ xs ys, x = .v (.tup xs) ∧ y = .v (.tup ys) ∧ I = ⟨(xs.zip ys).map fun p => .tup [p.1, p.2], []⟩) ∨
    (∃ xs, x = .v (.tup xs) ∧ (∀ ys, y ≠ .v (.tup ys)) ∧ ∃ I2, itemsOf y s = some I2 ∧ I = ⟨(xs.zip I2.xs).map fun p => .tup [p.1, p.2], I2.src⟩) ∨
    ((∀ xs, x ≠ .v (.tup xs)) ∧ (∀ ys, y ≠ .v (.tup ys)) ∧ ∃ I1 I2, itemsOf x s = some I1 ∧ itemsOf y s = some I2 ∧ I = ⟨(I1.xs.zip I2.xs).map fun p => .tup [p.1, p.2], I1.src ++ I2.src⟩) := by
  unfold zipOf at e
  split at e
  · cases e
    exact .inl ⟨_, _, rfl, rfl, rfl⟩
  · rename_i xs hn
    simp only [Option.map_eq_some_iff] at e
    obtain ⟨I2, e1, rfl⟩ := e
    exact .inr (.inl ⟨xs, rfl, fun ys h => hn ys h, I2, e1, rfl⟩)
  · cases e
  · rename_i h1 h2 h3 h4
    simp only [Option.bind_eq_some_iff, Option.map_eq_some_iff] at e
    obtain ⟨I1, e1, I2, e2, rfl⟩ := e
    exact .inr (.inr ⟨fun xs h => h2 xs h, fun ys h => h3 ys h, I1, I2, e1, e2, rfl⟩)
theorem walks_zipM {a b : Addr} {xs ys : List D} {src : List (Nat × List D)}
    (h : ∀ ι1 H1 s1, Ext ι H ι1 H1 → RS g ι1 s1 H1 → stands src s1 = true → ∃ vs ws, SqT g.K H1 a vs ∧ RDs g ι1 H1 xs vs ∧ SqL g.K H1 b ws ∧ RDs g ι1 H1 ys ws) :
    Walks g ι H ⟨(xs.zip ys).map fun p => .tup [p.1, p.2], src⟩ (Itm g.K a b) := fun ι1 H1 s1 i x rs st => by
  obtain ⟨vs, ws, h1, d1, h2, d2⟩ := h ι1 H1 s1 x rs st
  refine ⟨fun d hd => ?_, fun hi => ⟨vs, ws, h1, h2, by rw [← d1.length, ← d2.length]; exact pairs_len hi⟩⟩
  obtain ⟨x', y', g1, g2, rfl⟩ := pairs_get hd
  obtain ⟨v, e1, r1⟩ := d1.get g1
  obtain ⟨w, e2, r2⟩ := d2.get g2
  refine ⟨⟨vs, ws, v, w, h1, h2, e1, e2⟩, fun z H2 ⟨T', v', w', e3, e4, e5, e6, e7⟩ => ?_⟩
  have ev : v' = v := by
    have z := e6 vs h1
    rw [e1] at z; exact (Option.some.inj z).symm
  have ew : w' = w := by
    have z := e7 ws h2
    rw [e2] at z; exact (Option.some.inj z).symm
  subst e3 e5 ev ew
  exact pair_ok rs e4 r1 r2
theorem pi_zip_ {elts : List Expr} {kk : Nat} {tpos p : Pos} {y z : Expr} (hK : X.K = g.K) (hg : Gl X "zip") (hm : X.mg "zip" = none) (ha : PE X y (tE g W fa)) (hb : PE X z (tE g W fb)) (h1 : notStar y = true) (h2 : notStar z = true) :
    PI X (.Tuple elts kk tpos) (.Call (.Name "zip" p) [y, z] [] pos) (tI g W fun ρ s => (fa ρ s).bind fun x s => (fb ρ s).bind fun y s => ofO (zipOf x y s) s) :=
  PI.imp (pi_zipM hg hm (pb_cons_ ha (pb_cons_ hb pb_nil_ (star_of h2 _ _)) (star_of h1 _ _)) (star_of h1 _ _) (by rw [star_of h2]; rfl)) fun σ H R ⟨ι, ρ, s, re, rs, w⟩ => by
    dsimp only at w
    rw [two_args (fun x y s => ofO (zipOf x y s) s)] at w
    refine ⟨ι, ρ, s, re, rs, Wp.step (RA := rlTs g) w fun ts s1 ι1 H1 vs x1 rs1 rts w1 => ?_⟩
    match ts, rts, w1 with
    | [x, y], rts, w1 =>
      obtain ⟨v, u, rfl, r1, r2⟩ := RTs.two rts
      obtain ⟨I, e, q⟩ := w1.opt
      rw [hK]
      rcases zip_cases e with ⟨xs, ys, rfl, rfl, rfl⟩ | ⟨xs, rfl, n2', I2, e2, rfl⟩ | ⟨n1', n2', I1, I2, e1, e2, rfl⟩
      · obtain ⟨p, vs, rfl, hp, dp⟩ := r1.tup_
        obtain ⟨p', ws, rfl, hp', dp'⟩ := r2.tup_
        exact ⟨p, p', vs, ws, rfl, .inr (.inl ⟨hp, hp', q ι1 H1 _ Ext.refl rs1 (walks_zipT fun ι2 H2 s2 x2 rs2 _ => ⟨vs, ws, SqT.ext rs1 x2 hp, dp.ext rs1 x2, SqT.ext rs1 x2 hp', dp'.ext rs1 x2⟩)⟩)⟩
      · obtain ⟨p, vs, rfl, hp, dp⟩ := r1.tup_
        obtain ⟨p', rfl, _, hl'⟩ := src_ok rs1 r2 e2
        obtain ⟨ws, hq', _⟩ := hl' n2' ι1 H1 s1 Ext.refl rs1 (stand_now e2)
        refine ⟨p, p', vs, ws, rfl, .inr (.inr ⟨hp, hq', q ι1 H1 _ Ext.refl rs1 (walks_zipM fun ι2 H2 s2 x2 rs2 st => ?_)⟩)⟩
        obtain ⟨ws', h2, d2⟩ := hl' n2' ι2 H2 s2 x2 rs2 st
        exact ⟨vs, ws', SqT.ext rs1 x2 hp, dp.ext rs1 x2, h2, d2⟩
      · obtain ⟨p, rfl, _, hl⟩ := src_ok rs1 r1 e1
        obtain ⟨p', rfl, _, hl'⟩ := src_ok rs1 r2 e2
        obtain ⟨vs, hq, _⟩ := hl n1' ι1 H1 s1 Ext.refl rs1 (stand_now e1)
        obtain ⟨ws, hq', _⟩ := hl' n2' ι1 H1 s1 Ext.refl rs1 (stand_now e2)
        refine ⟨p, p', vs, ws, rfl, .inl ⟨hq, hq', q ι1 H1 _ Ext.refl rs1 (walks_zipL fun ι2 H2 s2 x2 rs2 st => ?_)⟩⟩
        obtain ⟨st1, st2⟩ := stands_app st
        obtain ⟨vs', h1, d1⟩ := hl n1' ι2 H2 s2 x2 rs2 st1
        obtain ⟨ws', h2, d2⟩ := hl' n2' ι2 H2 s2 x2 rs2 st2
        exact ⟨vs', ws', h1, d1, h2, d2⟩
    | [], _, w1 => exact w1.elim
    | [_], _, w1 => exact w1.elim
    | _ :: _ :: _ :: _, _, w1 => exact w1.elim
theorem walks_enumT {a : Addr} {I : Items} (h : ∀ ι1 H1 s1, Ext ι H ι1 H1 → RS g ι1 s1 H1 → stands I.src s1 = true → ∃ vs, SqT g.K H1 a vs ∧ RDs g ι1 H1 I.xs vs) :
    Walks g ι H ⟨I.xs.zipIdx.map fun p => .tup [.int (p.2 : Nat), p.1], I.src⟩ (Iet g.K a) := fun ι1 H1 s1 i x rs st => by
  obtain ⟨vs, h1, d1⟩ := h ι1 H1 s1 x rs st
  refine ⟨fun d hd => ?_, fun hi => ⟨vs, h1, by rw [← d1.length]; simpa using hi⟩⟩
  simp only [List.getElem?_map, Option.map_eq_some_iff, List.getElem?_zipIdx] at hd
  obtain ⟨⟨y, k⟩, ⟨y', g1, e0⟩, rfl⟩ := hd
  simp only [Nat.zero_add, Prod.mk.injEq] at e0
  obtain ⟨rfl, rfl⟩ := e0
  obtain ⟨w, e1, r1⟩ := d1.get g1
  refine ⟨⟨vs, w, h1, e1⟩, fun z H2 ⟨T', w', e3, e4, e5, e6⟩ => ?_⟩
  have ew : w' = w := by
    have z := e6 vs h1
    rw [e1] at z; exact (Option.some.inj z).symm
  subst e3 e5 ew
  exact pair_ok rs e4 (.int _) r1

theorem pi_enum_ {elts : List Expr} {kk : Nat} {tpos p : Pos} {y : Expr} (hK : X.K = g.K) (hg : Gl X "enumerate") (hm : X.mg "enumerate" = none) (ha : PE X y (tE g W fa)) (h1 : notStar y = true) :
    PI X (.Tuple elts kk tpos) (.Call (.Name "enumerate" p) [y] [] pos) (tI g W fun ρ s => (fa ρ s).bind fun t s => ofO (enumOf t s) s) :=
  PI.imp (pi_enumT hg hm (pb_cons_ ha pb_nil_ (star_of h1 _ _)) (by rw [star_of h1]; rfl)) fun σ H R ⟨ι, ρ, s, re, rs, w⟩ => by
    dsimp only at w
    rw [one_arg (fun t s => ofO (enumOf t s) s)] at w
    refine ⟨ι, ρ, s, re, rs, Wp.step (RA := rlTs g) w fun ts s1 ι1 H1 vs x1 rs1 rts w1 => ?_⟩
    match ts, rts, w1 with
    | [x], rts, w1 =>
      obtain ⟨v, rfl, r1⟩ := RTs.one rts
      obtain ⟨I, e, q⟩ := w1.opt
      rw [hK]
      unfold enumOf at e
      simp only [Option.map_eq_some_iff] at e
      obtain ⟨I1, e1, rfl⟩ := e
      obtain ⟨p, rfl, ht, hl⟩ := src_ok rs1 r1 e1
      by_cases hx : ∃ xs, x = .v (.tup xs)
      · obtain ⟨vs, hq, _⟩ := ht hx ι1 H1 s1 Ext.refl rs1 (stand_now e1)
        exact ⟨p, vs, rfl, .inr ⟨hq, q ι1 H1 _ Ext.refl rs1 (walks_enumT (ht hx))⟩⟩
      · have hx' : ∀ xs, x ≠ .v (.tup xs) := fun xs h => hx ⟨xs, h⟩
        obtain ⟨vs, hq, _⟩ := hl hx' ι1 H1 s1 Ext.refl rs1 (stand_now e1)
        exact ⟨p, vs, rfl, .inl ⟨hq, q ι1 H1 _ Ext.refl rs1 (walks_enum (hl hx'))⟩⟩
    | [], _, w1 => exact w1.elim
    | _ :: _ :: _, _, w1 => exact w1.elim

/-! ### comprehensions -/
/-- a list that the comprehension fills, outside of the store -/
theorem RD.tmp {D0 : Addr} {vs : List V} {ys : List V} {d : D} {v : V} (h : H D0 = some (.lst vs)) (r : RD g ι H d v) : RD g ι (upd H D0 (.lst ys)) d v :=
  r.imp (fun _ _ q => q) (fun a ws q => by
    have ne : a ≠ D0 := by
      rintro rfl
      rcases q with q | ⟨o, q⟩ <;> (rw [h] at q; cases q)
    rcases q with q | ⟨o, q⟩
    · exact .inl (by rw [upd_ne ne]; exact q)
    · exact .inr ⟨o, by rw [upd_ne ne]; exact q⟩)
    (fun a o ws q => by
      have ne : a ≠ D0 := by
        rintro rfl
        rw [h] at q; cases q
      rw [upd_ne ne]; exact q)
theorem RDs.tmp {D0 : Addr} {vs : List V} {ys : List V} {d : List D} {v : List V} (h : H D0 = some (.lst vs)) (r : RDs g ι H d v) : RDs g ι (upd H D0 (.lst ys)) d v :=
  r.imp (fun _ _ q => q) (fun a ws q => by
    have ne : a ≠ D0 := by
      rintro rfl
      rcases q with q | ⟨o, q⟩ <;> (rw [h] at q; cases q)
    rcases q with q | ⟨o, q⟩
    · exact .inl (by rw [upd_ne ne]; exact q)
    · exact .inr ⟨o, by rw [upd_ne ne]; exact q⟩)
    (fun a o ws q => by
      have ne : a ≠ D0 := by
        rintro rfl
        rw [h] at q; cases q
      rw [upd_ne ne]; exact q)
theorem RS.tmp {D0 : Addr} {vs : List V} {ys : List V} (rs : RS g ι s H) (h : H D0 = some (.lst vs)) (n : D0 ∉ ι) : RS g ι s (L2.upd H D0 (.lst ys)) := by
  refine ⟨rs.nd, rs.len, fun k o e => ?_, tabs_set h rs.tb⟩
  obtain ⟨a, ea, r⟩ := rs.at_ k o e
  have ne : a ≠ D0 := fun q => n (q ▸ List.mem_of_getElem? ea)
  refine ⟨a, ea, ?_⟩
  exact r.move (upd_ne ne) fun q => q.tmp h

theorem pe_lc_ {elt tg' iter : Expr} {ifs : List Expr} {scope : Scope} {own : List (Str × Nat)} {tg : Tg} {fi : Env → Sto → R Items} {fc : Env → Sto → R Bool} {fe : Env → Sto → R T}
    (hK : X.K = g.K) (hc : X.calm = true) (hN : X.N.Nodup) (hi : PI X tg' iter (tI g W fi)) (ok : BlkOk X.N X.env.scope scope own) (hsl : ∀ i ∈ tg.slots, i ∈ own.map (·.2))
    (hg : ∀ (s : Shared) (H : Hp) (C : Addr) (cl : List (Str × Addr)) (fp : List Addr), PG (X.blk s H scope (compEnvC scope cl C X.env) fp) tg' (gE g tg))
    (ht : ∀ (s : Shared) (H : Hp) (C : Addr) (cl : List (Str × Addr)) (fp : List Addr), PTs (X.blk s H scope (compEnvC scope cl C X.env) fp) ifs (tT g noW fc))
    (he : ∀ (s : Shared) (H : Hp) (C : Addr) (cl : List (Str × Addr)) (fp : List Addr), PE (X.blk s H scope (compEnvC scope cl C X.env) fp) elt (tE g noW fe)) (hs : ∀ x, foldedSetIterable iter X.env x = pure x) :
    PE X (.ListComp elt [⟨tg', iter, ifs, 0⟩] scope pos) (tLc (tI g W fi) (gE g tg) (tT g noW fc) (tE g noW fe) (own.map (·.2))) := pe_lc hc hN hi ok hg ht he hs
/-- the reading of a comprehension -/
theorem lc_ok {vs : List Nat} {tg : Tg} {fi : Env → Sto → R Items} {fc : Env → Sto → R Bool} {fe : Env → Sto → R T} {Q : VK} (hsl : ∀ i ∈ tg.slots, i ∈ vs)
    (h : tE g W (fun ρ s => (fi ρ s).bind fun I s => lcLoop (lcF tg vs ρ fc fe) I.src I.xs [] s) σ H Q) : tLc (tI g W fi) (gE g tg) (tT g noW fc) (tE g noW fe) vs σ H Q := by
  obtain ⟨ι, ρ, s, re, rs, w⟩ := h
  have hsz : sizeLine = LIM := sizeLine_eq
  refine ⟨ι, ρ, s, re, rs, Wp.step (RA := rlI g) w fun I s1 ι1 H1 J x1 rs1 wk w1 => ?_⟩
  have wk' : Walks g ι1 H1 I J := wk
  intro D0 hD
  refine ⟨fun i m H' => m = I.xs.length - i ∧ i ≤ I.xs.length ∧ ∃ ι' s' acc vacc, Ext ι1 H1 ι' H' ∧ RS g ι' s' H' ∧ H' D0 = some (.lst vacc) ∧ D0 ∉ ι' ∧ RDs g ι' H' acc vacc ∧
    Wp g W (rlT g) σ ι1 H1 (lcLoop (lcF tg vs ρ fc fe) I.src (I.xs.drop i) acc s') Q, ⟨_, rfl, Nat.zero_le _, ι1, s1, [], [], Ext.upd hD, rs1.upd hD, upd_same, rs1.free hD, .nil, by simpa using w1⟩, ?_⟩
  rintro i m H' ⟨rfl, hi, ι', s', acc, vacc, x2, rs2, hD2, nD, racc, w2⟩
  by_cases hlt : i < I.xs.length
  · -- a turn
    obtain ⟨d, hd⟩ : ∃ d, I.xs[i]? = some d := ⟨I.xs[i], by simp [hlt]⟩
    have hdrop : I.xs.drop i = d :: I.xs.drop (i + 1) := by
      rw [List.drop_eq_getElem_cons hlt]
      congr 1
      rw [List.getElem?_eq_getElem hlt] at hd
      exact Option.some.inj hd
    rw [hdrop] at w2
    unfold lcLoop at w2
    cases hst : stands I.src s' with
    | false => rw [hst] at w2; simp only [Bool.false_eq_true, if_false] at w2; exact w2.elim
    | true =>
      rw [hst] at w2
      simp only [if_true] at w2
      obtain ⟨go, _⟩ := wk' ι' H' s' i x2 rs2 hst
      obtain ⟨hgo, yl⟩ := go d hd
      refine .inr ⟨hgo, fun H3 => ∃ ι3 s3 acc3 vacc3, Ext ι1 H1 ι3 H3 ∧ RS g ι3 s3 H3 ∧ H3 D0 = some (.lst vacc3) ∧ D0 ∉ ι3 ∧ RDs g ι3 H3 acc3 vacc3 ∧
        Wp g W (rlT g) σ ι1 H1 (lcLoop (lcF tg vs ρ fc fe) I.src (I.xs.drop (i + 1)) acc3 s3) Q, fun H3 h3 => ⟨_, by omega, rfl, hlt, h3⟩, fun x H4 hy => ?_⟩
      obtain ⟨x4, rs4, rd⟩ := yl x H4 hy
      -- the target
      unfold lcF at w2
      cases hb : bindT tg d (wipeE ρ vs) with
      | none => rw [hb] at w2; exact w2.elim
      | some ρ' =>
        rw [hb] at w2
        simp only at w2
        have re4 : RE g ι' H4 (wipeE ρ vs) (wipe σ vs) := (re.ext rs ((x1.trans x2).trans x4)).wipe vs
        refine ⟨ι', _, s', d, ρ', re4, rs4, rd, hb, fun σ2 re2 hw => ⟨hw vs hsl |>.trans (wipe_wipe σ vs), ι', ρ', s', re2, rs4, ?_⟩⟩
        -- the test
        have hD4 : H4 D0 = some (.lst vacc) := x4.keep _ _ hD2 nD rfl
        have racc4 := racc.ext rs2 x4
        cases hfc : fc ρ' s' with
        | bad => rw [hfc] at w2; exact w2.elim
        | ex _ _ => rw [hfc] at w2; exact w2.elim
        | ok b s5 =>
          rw [hfc] at w2
          simp only [R.bind_ok] at w2
          intro ι5 H5 b' x5 rs5 eb
          have eb' : b = b' := eb
          subst eb'
          have hD5 : H5 D0 = some (.lst vacc) := x5.keep _ _ hD4 nD rfl
          have nD5 : D0 ∉ ι5 := x5.out hD4 nD
          have racc5 := racc4.ext rs4 x5
          have x15 : Ext ι1 H1 ι5 H5 := (x2.trans x4).trans x5
          cases b with
          | false =>
            simp only [Bool.false_eq_true, if_false] at w2 ⊢
            exact ⟨ι5, s5, acc, vacc, x15, rs5, hD5, nD5, racc5, w2⟩
          | true =>
            simp only [if_true] at w2 ⊢
            refine ⟨ι5, ρ', s5, re2.ext rs4 x5, rs5, ?_⟩
            cases hfe : fe ρ' s5 with
            | bad => rw [hfe] at w2; exact w2.elim
            | ex _ _ => rw [hfe] at w2; exact w2.elim
            | ok t s6 =>
              rw [hfe] at w2
              simp only [R.bind_ok, keepR] at w2
              intro ι6 H6 y x6 rs6 ry
              obtain ⟨ι7, rs7, x7, rd7⟩ := keep_ok rs6 x6 ry.1 ry.2
              have hD6 : H6 D0 = some (.lst vacc) := x7.keep _ _ hD5 nD5 rfl
              have nD7 : D0 ∉ ι7 := x7.out hD5 nD5
              split at w2
              · rename_i hlim
                refine ⟨vacc, hD6, by rw [hsz, ← racc5.length]; exact hlim, ι7, _, acc ++ [(t.keep s6).1], vacc ++ [y], ?_, rs7.tmp hD6 nD7, upd_same, nD7, ?_, w2⟩
                · have x17 := x15.trans x7
                  refine ⟨x17.pre, fun c o ec nc hn => ?_, x17.new⟩
                  rw [upd_ne (ne_of_none ec hD)]
                  exact x17.keep c o ec nc hn
                · exact ((racc5.ext rs5 x7).tmp hD6).append (.cons (rd7.tmp hD6) .nil)
              · exact w2.elim
  · -- the end
    have ei : i = I.xs.length := by omega
    subst ei
    rw [List.drop_length] at w2
    unfold lcLoop at w2
    cases hst : stands I.src s' with
    | false => rw [hst] at w2; simp only [Bool.false_eq_true, if_false] at w2; exact w2.elim
    | true =>
      rw [hst] at w2
      simp only [if_true] at w2
      exact .inl ⟨(wk' ι' H' s' _ x2 rs2 hst).2 (Nat.le_refl _), w2 ι' H' _ x2 rs2 ⟨.l hD2 nD racc, D0, rfl, nn_none hD⟩⟩
end
end Fy
end
section
set_option Elab.async false
set_option linter.all false
set_option maxRecDepth 100000
set_option maxHeartbeats 4000000
/-! FyG: methods of lists. -/
namespace Fy
open PySem PySem.Spec PyProof.Rows L2
section
variable {g : Glo} {W : WX} {X : Cx} {σ : L2.St} {ι ι1 ι' : List Addr} {H H1 H' : Hp} {s s' : Sto} {fa : Env → Sto → R T} {ρ : Env}
def lmId : Lm → String
  | .ext => "list.extend"
  | .pop => "list.pop"
  | .idx => "list.index"
theorem lmSlot : ∀ m, Slot "list" (lmName m) (lmId m)
  | .ext => PySem.F.slot_list_extend
  | .pop => PySem.F.slot_list_pop
  | .idx => PySem.F.slot_list_index
theorem lmTy : ∀ m, typeOf (.builtin (lmId m)) = pure (.type "method_descriptor")
  | .ext => PySem.F.type_list_extend
  | .pop => PySem.F.type_list_pop
  | .idx => PySem.F.type_list_index
/-- what a method is worth -/
def rMe (g : Glo) (W : WX) (σ : L2.St) (m : Lm) : V → List V → Hp → VK → Prop := fun x vs H Q => ∃ ι s t ts, RS g ι s H ∧ RT g ι H t x ∧ RTs g ι H ts vs ∧ Wp g W (rlT g) σ ι H (meT m t ts s) Q
theorem RDs.dropLast {xs : List D} {vs : List V} (r : RDs g ι H xs vs) : RDs g ι H xs.dropLast vs.dropLast := by
  rw [List.dropLast_eq_take, List.dropLast_eq_take, r.length]
  exact r.take _
theorem loc_at (rs : RS g ι s H) {n : Nat} {x : V} {xs : List D} (r : RT g ι H (.v (.loc n)) x) (e : s[n]? = some (.lst xs)) : ∃ a vs, x = .ref a ∧ ι[n]? = some a ∧ H a = some (.lst vs) ∧ RDs g ι H xs vs := by
  cases r with
  | v q =>
    cases q with
    | @loc _ a q =>
      obtain ⟨b, eb, vs, e1, r1⟩ := rs.at_ n _ e
      have e2 : b = a := by rw [q] at eb; exact (Option.some.inj eb).symm
      subst e2
      exact ⟨b, vs, rfl, q, e1, r1⟩
theorem RS.put {n : Nat} {a : Addr} {xs ys : List D} {vs ws : List V} (rs : RS g ι s H) (hs : s[n]? = some (.lst xs)) (ha : ι[n]? = some a) (hv : H a = some (.lst vs)) (r : RDs g ι H ys ws) :
    RS g ι (s.set n (.lst ys)) (L2.upd H a (.lst ws)) ∧ Ext ι H ι (L2.upd H a (.lst ws)) := by
  have x : Ext ι H ι (L2.upd H a (.lst ws)) := ⟨List.prefix_refl _, fun b o e nb _ => by rw [upd_ne (fun q => nb (by rw [q]; exact List.mem_of_getElem? ha))]; exact e, fun _ m nm => absurd m nm⟩
  have tm : ∀ b us, Rd H b (.tup us) → Rd (L2.upd H a (.lst ws)) b (.tup us) := fun b us q => by
    have ne : b ≠ a := by
      rintro rfl
      rcases q with q | ⟨o, q⟩ <;> (rw [hv] at q; cases q)
    rcases q with q | ⟨o, q⟩
    · exact .inl (by rw [upd_ne ne]; exact q)
    · exact .inr ⟨o, by rw [upd_ne ne]; exact q⟩
  have fm : ∀ b o us, H b = some (.frz o (.lst us)) → (L2.upd H a (.lst ws)) b = some (.frz o (.lst us)) := fun b o us q => by
    have ne : b ≠ a := by
      rintro rfl
      rw [hv] at q; cases q
    rw [upd_ne ne]; exact q
  refine ⟨⟨rs.nd, by simp [rs.len], fun k o e => ?_, tabs_set hv rs.tb⟩, x⟩
  by_cases hk : n = k
  · subst hk
    have hl : n < s.length := (List.getElem?_eq_some_iff.mp hs).1
    rw [List.getElem?_set_self hl] at e
    cases e
    exact ⟨a, ha, ws, upd_same, r.imp (fun _ _ q => q) tm fm⟩
  · rw [List.getElem?_set_ne hk] at e
    obtain ⟨b, eb, rb⟩ := rs.at_ k o e
    have ne : b ≠ a := by
      rintro rfl
      have h1 := (List.getElem?_eq_some_iff.mp ha)
      have h2 := (List.getElem?_eq_some_iff.mp eb)
      obtain ⟨l1, e1⟩ := h1
      obtain ⟨l2, e2⟩ := h2
      exact hk ((List.getElem_inj rs.nd).mp (e1.trans e2.symm))
    refine ⟨b, eb, ?_⟩
    exact rb.move (upd_ne ne) fun q => q.imp (fun _ _ q => q) tm fm
theorem app_ok {t : T} {x : V} {ds : List D} {vs : List V} {Q : VK} (rs : RS g ι s H) (rt : RT g ι H t x) (rd : RDs g ι H ds vs) (w : Wp g W (rlT g) σ ι H (appT t ds s) Q) : rAppend x vs H Q := by
  cases t with
  | l _ => exact w.elim
  | v d => cases d with
    | loc n =>
      match ds, rd, w with
      | [], _, w => exact w.elim
      | _ :: _ :: _, _, w => exact w.elim
      | [d], rd, w =>
        obtain ⟨y, rfl, ry⟩ := RDs.one rd
        have w : Wp g W (rlT g) σ ι H (match s[n]? with
          | some (.lst xs) => if xs.length < LIM then .ok (.v .non) (s.set n (.lst (xs ++ [d]))) else .bad
          | _ => .bad) Q := w
        cases hs : s[n]? with
        | none => rw [hs] at w; exact w.elim
        | some o =>
          cases o with
          | lst xs =>
            rw [hs] at w
            simp only at w
            split at w
            · rename_i hl
              obtain ⟨a, ws, rfl, ha, hv, dv⟩ := loc_at rs rt hs
              obtain ⟨rs2, x2⟩ := rs.put (ys := xs ++ [d]) (ws := ws ++ [y]) hs ha hv (dv.append (.cons ry .nil))
              exact ⟨a, ws, y, rfl, rfl, hv, by rw [← dv.length, sizeLine_eq]; exact hl, w ι _ .non x2 rs2 (rlT.v .non)⟩
            · exact w.elim
          | _ => rw [hs] at w; exact w.elim
    | _ => exact w.elim
theorem ext_ok {t : T} {x : V} {ts : List T} {vs : List V} {Q : VK} (rs : RS g ι s H) (rt : RT g ι H t x) (rd : RTs g ι H ts vs) (w : Wp g W (rlT g) σ ι H (meT .ext t ts s) Q) : rExtend x vs H Q := by
  cases t with
  | l _ => exact w.elim
  | v d => cases d with
    | loc n =>
      match ts, rd, w with
      | [], _, w => exact w.elim
      | _ :: _ :: _, _, w => exact w.elim
      | [y], rd, w =>
        obtain ⟨z, rfl, rz⟩ := RTs.one rd
        have w : Wp g W (rlT g) σ ι H (match s[n]?, mlstOf y s with
          | some (.lst xs), some ys => if xs.length + ys.length ≤ LIM then .ok (.v .non) (s.set n (.lst (xs ++ ys))) else .bad
          | _, _ => .bad) Q := w
        cases hs : s[n]? with
        | none => rw [hs] at w; exact w.elim
        | some o =>
          cases o with
          | lst xs =>
            rw [hs] at w
            cases hy : mlstOf y s with
            | none => rw [hy] at w; exact w.elim
            | some ys =>
              rw [hy] at w
              simp only at w
              split at w
              · rename_i hl
                obtain ⟨a, ws, rfl, ha, hv, dv⟩ := loc_at rs rt hs
                obtain ⟨b, us, rfl, hb, db⟩ := mlst_ok rs rz hy
                obtain ⟨rs2, x2⟩ := rs.put (ys := xs ++ ys) (ws := ws ++ us) hs ha hv (dv.append db)
                exact ⟨a, b, ws, us, rfl, rfl, hv, hb, by rw [← dv.length, ← db.length, sizeLine_eq]; exact hl, w ι _ .non x2 rs2 (rlT.v .non)⟩
              · exact w.elim
          | _ => rw [hs] at w; exact w.elim
    | _ => exact w.elim
theorem pop_ok {t : T} {x : V} {Q : VK} (rs : RS g ι s H) (rt : RT g ι H t x) (w : Wp g W (rlT g) σ ι H (meT .pop t [] s) Q) : rPop x [] H Q := by
  cases t with
  | l _ => exact w.elim
  | v d => cases d with
    | loc n =>
      have w : Wp g W (rlT g) σ ι H (match s[n]? with
        | some (.lst xs) => (match xs[xs.length - 1]? with
          | some y => .ok (.v y) (s.set n (.lst xs.dropLast))
          | none => .bad)
        | _ => .bad) Q := w
      cases hs : s[n]? with
      | none => rw [hs] at w; exact w.elim
      | some o =>
        cases o with
        | lst xs =>
          rw [hs] at w
          cases hy : xs[xs.length - 1]? with
          | none => simp only [hy] at w; exact w.elim
          | some y =>
            simp only [hy] at w
            obtain ⟨a, ws, rfl, ha, hv, dv⟩ := loc_at rs rt hs
            obtain ⟨rs2, x2⟩ := rs.put (ys := xs.dropLast) (ws := ws.dropLast) hs ha hv dv.dropLast
            obtain ⟨v, ev, rv⟩ := dv.get hy
            exact ⟨a, ws, v, rfl, rfl, hv, by rw [← dv.length]; exact ev, w ι _ v x2 rs2 (rlT.v (rv.ext rs x2))⟩
        | _ => rw [hs] at w; exact w.elim
    | _ => exact w.elim
theorem me_idx (t : T) (ts : List T) (s : Sto) : meT .idx t ts s = (match ts with
    | [.v y] => (match lstOf t s with | some xs => ofO (idxD xs y) s | none => .bad)
    | _ => .bad) := by
  rcases ts with _ | ⟨_ | _, _ | ⟨_, _⟩⟩ <;> cases t with
    | l _ => rfl
    | v d => cases d <;> rfl
theorem mix_ok (hK : X.K = g.K) {t : T} {x : V} {ts : List T} {vs : List V} {Q : VK} (rs : RS g ι s H) (rt : RT g ι H t x) (rd : RTs g ι H ts vs) (w : Wp g W (rlT g) σ ι H (meT .idx t ts s) Q) :
    rIndex X.K x vs H Q ∨ rIndexD X.K x vs H Q := by
  rw [me_idx] at w
  match ts, rd, w with
  | [], _, w => exact w.elim
  | .v _ :: _ :: _, _, w => exact w.elim
  | .l _ :: _, _, w => exact w.elim
  | [.v y], rd, w =>
    obtain ⟨z, rfl, rz⟩ := RTs.one rd
    have w : Wp g W (rlT g) σ ι H (match lstOf t s with
      | some xs => ofO (idxD xs y) s
      | none => .bad) Q := w
    cases hx : lstOf t s with
    | none => rw [hx] at w; exact w.elim
    | some xs =>
      rw [hx] at w
      obtain ⟨a, ws, rfl, hl, dv⟩ := lst_ok rs rt hx
      obtain ⟨r, e, q⟩ := w.opt
      have rd1 : RD g ι H y z := by cases rz with | v q => exact q
      rw [hK]
      unfold idxD at e
      split at e
      · rename_i hf
        simp only [Bool.and_eq_true] at hf
        simp only [Option.map_eq_some_iff] at e
        obtain ⟨j, ej, rfl⟩ := e
        obtain ⟨hj, h1, h2⟩ := List.findIdx?_eq_some_iff_getElem.mp ej
        obtain ⟨v, ev, rv⟩ := dv.get (List.getElem?_eq_getElem hj)
        have fx : ∀ i (hi : i < xs.length), flat xs[i] = true := fun i hi => List.all_eq_true.mp hf.2 _ (List.getElem_mem hi)
        refine .inl ⟨a, ws, z, j, v, rfl, rfl, hl, flat_of rd1 hf.1, flats_of dv hf.2, ev, ?_, fun m z' hm em => ?_, q ι H _ Ext.refl rs (rlT.v (.int _))⟩
        · rw [eqF_of rv rd1 (fx j hj) hf.1]
          exact h1
        · obtain ⟨d, ed, rd'⟩ := dv.get' em
          obtain ⟨hm', e2⟩ := List.getElem?_eq_some_iff.mp ed
          subst e2
          rw [eqF_of rd' rd1 (fx m hm') hf.1]
          have := h2 m hm
          simpa using this
      · cases ed : D.py y with
        | none => rw [ed] at e; cases e
        | some d =>
          cases eds : D.pys xs with
          | none => rw [ed, eds] at e; cases e
          | some ds =>
            rw [ed, eds] at e
            simp only [Option.bind_some] at e
            split at e
            · rename_i hs
              simp only [Bool.and_eq_true] at hs
              simp only [Option.map_eq_some_iff] at e
              obtain ⟨j, ej, rfl⟩ := e
              obtain ⟨hj, h1, h2⟩ := List.findIdx?_eq_some_iff_getElem.mp ej
              refine .inr ⟨a, z, d, ds, j, ds[j], rfl, rfl, ?_, dp_of rd1 ed, hs.2, hs.1, List.getElem?_eq_getElem hj, h1, fun m z' hm em => ?_, q ι H _ Ext.refl rs (rlT.v (.int _))⟩
              · exact .lst hl (dps_of dv eds)
              · obtain ⟨hm', e2⟩ := List.getElem?_eq_some_iff.mp em
                subst e2
                have := h2 m hm
                simpa using this
            · cases e
/-- what a list's method needs to be called -/
theorem isLst_some {t u : T} (e : isLst t s = some u) : u = t ∧ ∃ xs, lstOf t s = some xs := by
  unfold isLst at e
  simp only [Option.map_eq_some_iff] at e
  obtain ⟨xs, e1, rfl⟩ := e
  exact ⟨rfl, xs, e1⟩
theorem tyV_lst (hK : X.K = g.K) {t : T} {x : V} {xs : List D} (rs : RS g ι s H) (rt : RT g ι H t x) (e : lstOf t s = some xs) : tyV X.K "list" x H := by
  obtain ⟨a, vs, rfl, h, _⟩ := lst_ok rs rt e
  rw [hK]
  exact .inl ⟨rfl, vs, h⟩
theorem base_of {o : Expr} (h : baseE o = true) (name : Str) (env : PySem.Env) : attributeBase o name env (eval o env) = eval o env := by
  cases o <;> first | rfl | (simp [baseE] at h)
theorem pe_app_ {fs : Env → Sto → R (List D)} {o e : Expr} {apos cpos : Pos} (hK : X.K = g.K) (ho : PE X o (tE g W fa)) (ha : PA X [e] (tA g W fs)) (hb : baseE o = true) (he : notStar e = true) (hl : (apos.endLine == cpos.line) = true) :
    PE X (.Call (.Attribute o "append" apos) [e] [] cpos) (tE g W fun ρ s => (fa ρ s).bind fun t s => (ofO (isLst t s) s).bind fun t s => (fs ρ s).bind fun ds s => appT t ds s) := by
  have hse := star_of he [] X.env
  refine PE.imp (pe_bm PySem.F.plainAttrs_list PySem.F.slot_list_append PySem.F.type_list_append mt_append ho ha (base_of hb _ _) (by rw [hse]; rfl) hl hse rfl) fun σ H Q ⟨ι, ρ, s, re, rs, w⟩ => ⟨ι, ρ, s, re, rs, Wp.step (RA := rlT g) w fun t s1 ι1 H1 b x1 rs1 r1 w1 => ?_⟩
  cases e1 : isLst t s1 with
  | none => rw [e1] at w1; exact w1.elim
  | some u =>
    rw [e1] at w1
    obtain ⟨rfl, xs, e2⟩ := isLst_some e1
    refine ⟨tyV_lst hK rs1 r1.1 e2, ι1, ρ, s1, re.ext rs x1, rs1, Wp.step (RA := rlDs g) w1 fun ds s2 ι2 H2 vs x2 rs2 r2 w2 => ?_⟩
    exact app_ok rs2 (r1.1.ext rs1 x2) r2 w2
theorem pe_ext_ {fs : Env → Sto → R (List T)} {o e : Expr} {apos cpos : Pos} (hK : X.K = g.K) (ho : PE X o (tE g W fa)) (ha : PA X [e] (tAT g W fs)) (hb : baseE o = true) (he : notStar e = true) (hl : (apos.endLine == cpos.line) = true) :
    PE X (.Call (.Attribute o "extend" apos) [e] [] cpos) (tE g W fun ρ s => (fa ρ s).bind fun t s => (ofO (isLst t s) s).bind fun t s => (fs ρ s).bind fun ds s => meT .ext t ds s) := by
  have hse := star_of he [] X.env
  refine PE.imp (pe_bm PySem.F.plainAttrs_list PySem.F.slot_list_extend PySem.F.type_list_extend mt_extend ho ha (base_of hb _ _) (by rw [hse]; rfl) hl hse rfl) fun σ H Q ⟨ι, ρ, s, re, rs, w⟩ => ⟨ι, ρ, s, re, rs, Wp.step (RA := rlT g) w fun t s1 ι1 H1 b x1 rs1 r1 w1 => ?_⟩
  cases e1 : isLst t s1 with
  | none => rw [e1] at w1; exact w1.elim
  | some u =>
    rw [e1] at w1
    obtain ⟨rfl, xs, e2⟩ := isLst_some e1
    refine ⟨tyV_lst hK rs1 r1.1 e2, ι1, ρ, s1, re.ext rs x1, rs1, Wp.step (RA := rlTs g) w1 fun ds s2 ι2 H2 vs x2 rs2 r2 w2 => ?_⟩
    exact ext_ok rs2 (r1.1.ext rs1 x2) r2 w2
theorem pe_idx2_ {fs : Env → Sto → R (List T)} {o e : Expr} {apos cpos : Pos} (hK : X.K = g.K) (hu : X.A.units + 65 < cLine) (ho : PE X o (tE g W fa)) (ha : PA X [e] (tAT g W fs)) (hb : baseE o = true) (he : notStar e = true) (hl : (apos.endLine == cpos.line) = true) :
    PE X (.Call (.Attribute o "index" apos) [e] [] cpos) (tE g W fun ρ s => (fa ρ s).bind fun t s => (ofO (isLst t s) s).bind fun t s => (fs ρ s).bind fun ds s => meT .idx t ds s) := by
  have hse := star_of he [] X.env
  have hm : MtR X "list.index" (fun x xs H Q => rIndex X.K x xs H Q ∨ rIndexD X.K x xs H Q) := fun pins s σ H x xs v us Q I rx rxs h => h.elim (mt_index pins s σ H x xs v us Q I rx rxs) (mt_indexD hu pins s σ H x xs v us Q I rx rxs)
  refine PE.imp (pe_bm PySem.F.plainAttrs_list PySem.F.slot_list_index PySem.F.type_list_index hm ho ha (base_of hb _ _) (by rw [hse]; rfl) hl hse rfl) fun σ H Q ⟨ι, ρ, s, re, rs, w⟩ => ⟨ι, ρ, s, re, rs, Wp.step (RA := rlT g) w fun t s1 ι1 H1 b x1 rs1 r1 w1 => ?_⟩
  cases e1 : isLst t s1 with
  | none => rw [e1] at w1; exact w1.elim
  | some u =>
    rw [e1] at w1
    obtain ⟨rfl, xs, e2⟩ := isLst_some e1
    refine ⟨tyV_lst hK rs1 r1.1 e2, ι1, ρ, s1, re.ext rs x1, rs1, Wp.step (RA := rlTs g) w1 fun ds s2 ι2 H2 vs x2 rs2 r2 w2 => ?_⟩
    exact mix_ok hK rs2 (r1.1.ext rs1 x2) r2 w2
theorem pe_pop_ {o : Expr} {apos cpos : Pos} (hK : X.K = g.K) (ho : PE X o (tE g W fa)) (hb : baseE o = true) (hl : (apos.endLine == cpos.line) = true) :
    PE X (.Call (.Attribute o "pop" apos) [] [] cpos) (tE g W fun ρ s => (fa ρ s).bind fun t s => (ofO (isLst t s) s).bind fun t s => (bNil ρ s).bind fun ds s => meT .pop t ds s) := by
  refine PE.imp (pe_bm0 PySem.F.plainAttrs_list PySem.F.slot_list_pop PySem.F.type_list_pop mt_pop ho (base_of hb _ _) hl) fun σ H Q ⟨ι, ρ, s, re, rs, w⟩ => ⟨ι, ρ, s, re, rs, Wp.step (RA := rlT g) w fun t s1 ι1 H1 b x1 rs1 r1 w1 => ?_⟩
  cases e1 : isLst t s1 with
  | none => rw [e1] at w1; exact w1.elim
  | some u =>
    rw [e1] at w1
    obtain ⟨rfl, xs, e2⟩ := isLst_some e1
    exact ⟨tyV_lst hK rs1 r1.1 e2, pop_ok rs1 r1.1 w1⟩
end
end Fy
end
section
set_option Elab.async false
set_option linter.all false
set_option maxRecDepth 100000
set_option maxHeartbeats 2000000
/-! Fz4: try: work() .. return None / except C as e: return e.at. -/
namespace Fy
open PySem PySem.Spec PyProof.Rows L2 LamX
/-- what such a def tells of what it got -/
def THeard (K : PySem.W.Frag) (CS : Addr) : (XK → Hp → VK → Prop) → Hp → VK → Prop := fun tl H Q =>
  tl (fun cls d H' => ∃ b, PySem.W.exmOne K cls (.ref CS) = some b ∧ (b = true → cls = .ref CS ∧ ∃ (dd : Addr) (fs : List (Str × V)) (v : V), d = some dd ∧ H' dd = some (.xd fs) ∧ fs.lookup ("at" : Str) = some v ∧ Q v H') ∧ (b = false → False)) H fun _ H' => Q .non H'
theorem takes_len {X : Cx} {W : WX} (tk : Takes X W) : Takes X (fun c d σ H => σ.length = X.N.length → W c d σ H) := fun u s' ⟨a, B, sI, pins, σ, H, cls, d, e, I, nb, up, sky, na, os, ag, w⟩ =>
  tk u s' ⟨a, B, sI, pins, σ, H, cls, d, e, I, nb, up, sky, na, os, ag, w I.len⟩
theorem heard_gives {X : Cx} {Ng : List Str} {x a e n q : Str} {sg : Scope} {g CS : Addr} {cdg : Value} {i j : Nat} {p1 p2 p3 p4 p5 p6 p7 p8 p9 p10 p11 : Pos} (hge : sg.names.lookup e = some .globalImplicit) (hme : X.mg e = some (.ref CS)) (hde : (e == ("__debug__" : Str)) = false)
    (h0 : ∀ f : Addr, (L2.start Ng [V.ref f])[0]? = some (some (V.ref f))) (hN : Ng.Nodup) (hi : Ng[i]? = some n) (hln : sg.names.lookup n = some .local) (hnd : (n == ("__debug__" : Str)) = false) (hnc : (n == ("__classdict__" : Str)) = false)
    (T : XfC X.K CS) (hno : PySem.W.findIn X.K (.ref CS) "at" = some none) (hk : sg.kind = .function) :
    GivesTo X Ng x sg g cdg [.Try [.Expr (.Call (.Name a p1) [] [] p2) p3, .Return (some (.Constant .none j p4)) p5] [.ExceptHandler (some (.Name e p6)) (some n) [.Return (some (.Attribute (.Name n p7) "at" p8)) p9] p10] [] [] p11] a q (THeard X.K CS) := by
  intro f c' s H Q tl act hc h
  have hgl : Gl (cxOf C8.CX0 X.prog X.w X.K X.mg X.base Ng x sg g cdg X.A X.stack s H C8.E0).nox e := hge
  have hsuit : ∀ (a : Addr) (oe : Obj) (cls : Value) (d : Option Addr) (pn : List (Addr × Obj)), Zc cls d oe → (∃ vs, oe.data = .fields vs) →
      PSs ((cxOf C8.CX0 X.prog X.w X.K X.mg X.base Ng x sg g cdg X.A X.stack s H C8.E0).nox.suite a ((a, oe) :: pn)) [.Return (some (.Attribute (.Name n p7) "at" p8)) p9] _ := fun a oe cls d pn hz hf =>
    pss_one (ps_ret (pe_xf (X := (cxOf C8.CX0 X.prog X.w X.K X.mg X.base Ng x sg g cdg X.A X.stack s H C8.E0).nox) (C := CS) (cls := cls) (d := d) T hno hz hf (pe_var (i := i) hi (.inl hln) hnd hnc) rfl))
  refine ⟨_, pss_one (ps_try_as (X := (cxOf C8.CX0 X.prog X.w X.K X.mg X.base Ng x sg g cdg X.A X.stack s H C8.E0).nox) (c := .ref CS) (i := i)
      (tb := fun W D σ H => ∃ Ech : XK, (∀ cls d (σ' : L2.St) H', Ech cls d H' → σ'.length = Ng.length → W cls d σ' H') ∧ σ[0]? = some (some (.ref f)) ∧ H c' = some (CodeO c' q) ∧ tl Ech H fun _ H' => D.rt .non H')
      rfl rfl hN hi hln ⟨hgl, hde, .inl hme⟩ LamX.takes0 (fun W pn xe tk _ => ?_) hsuit), ?_⟩
  · refine ⟨fun pins s' σ H' D I ⟨Ech, hW, h1, h2, h3⟩ => ?_⟩
    have hp := act _ pn xe Ech p1 p2 (takes_len tk) hW
    have hq := pss_cons (ps_expr (pos := p3) hp rfl) (pss_one (ps_ret (pos := p5) (pe_non (j := j) (pos := p4))))
    exact hq.run pins s' σ H' D I ⟨h1, h2, h3⟩
  · refine ⟨_, fun cls d σ' H' ⟨b, e1, e2, e3⟩ hl => ⟨b, e1, fun hb a' ha' => ?_, fun hb => e3 hb⟩, h0 f, hc, h⟩
    obtain ⟨ec, dd, fs, v, ed, e4, e5, qq⟩ := e2 hb
    have hlt : i < σ'.length := by rw [hl]; exact (List.getElem?_eq_some_iff.mp hi).1
    exact ⟨.ref a', by rw [List.getElem?_set_self hlt], rfl, ec, dd, fs, v, ed, e4, e5, qq⟩
end Fy
end
section
set_option Elab.async false
set_option linter.all false
set_option maxRecDepth 100000
set_option maxHeartbeats 4000000
/-! FzX: isinstance of a caught exception that keeps something. -/
namespace Fy
open PySem PySem.Spec PySem.W PySem.Calls PyProof.Rows
section
variable {prog : Program} {w : World} {A : Around} {E : Value → Shared → Prop} {s : Shared} {K : Frag} {x D : Addr} {ox dob : Obj}
theorem bexc_class {Q : Option Value → Shared → Prop} (C : L2.ExcC K D) (X : K.In s.heap) (I : InstAt s.heap x ox D (some dob)) (h : Q (some (.ref D)) { s with toks := s.toks + 1 }) : wpAny (model prog w) A (getAttr? (.ref x) "__class__") Q E s := by
  have there : (clsIn K D).isSome = true := by obtain ⟨cd, e, _⟩ := any_some C.hd; rw [e]; rfl
  have bound := findObj_data (od := dob) (name := "__class__") there C.ha C.hn C.ht
  obtain ⟨hp, g, d, t, os⟩ := s
  have T0 := I.type (M := model prog w); have T1 := looks_findIn (M := model prog w) X C.hg; have T2 := looks_findIn (M := model prog w) X C.hk
  have T3 := looks_find (M := model prog w) X I bound
  have isB : Looks (model prog w) hp (isInstance (.ref x) (.type "BaseException")) true := T0.andThen (looks_subIn X C.hs)
  have no1 : (Value.builtin "BaseException.__getattribute__" == Value.builtin "object.__getattribute__") = false := by decide +kernel
  have no2 : (onTheHeap (Value.ref D) && Value.builtin "BaseException.__getattribute__" == Value.builtin "object.__getattribute__") = false := by rw [no1]; rfl
  have no3 : (false && onTheHeap (Value.builtin "BaseException.__getattribute__")) = false := rfl
  unfold getAttr? getAttrBy? getAttrBy
  refine wpAny_bind (wpAny_mkText (wpAny_bind (wpAny_attempt (wpAny_holding (wpAny_bind (T0.at (wpAny_bind (T1.at ?_))))))))
  show wpAny _ _ (if (onTheHeap (Value.ref D) && Value.builtin "BaseException.__getattribute__" == Value.builtin "object.__getattribute__") = true then _ else _) _ _ _
  rw [no2, if_neg Bool.false_ne_true]; unfold getAttrByItsOwn hookBefore; refine wpAny_bind ?_
  rw [if_pos (show onTheHeap (Value.ref D) = true from rfl)]; refine T2.at (wpAny_bind (wpAny_attempt (wpAny_holding ?_)))
  unfold callGetattribute; rw [no3, if_neg Bool.false_ne_true]; unfold boundAndCalled; rw [PySem.F.excAttr_ValueError.ga.bind (.ref x)]
  refine wpAny_bind (wpAny_pure (wpAny_call (codeAny_call_builtin PySem.F.excAttr_ValueError.ga.plain PySem.F.entry_bexc_ga ?_)))
  refine @check_slot (model prog w) _ _ ⟨hp, g, d, t + 1, os⟩ "BaseException.__getattribute__" "BaseException" "__getattribute__" (.ref x) [.str "__class__" t] [] _ (by decide +kernel) (by decide +kernel) isB (PySem.F.args_bexc_ga (.ref x) (.str "__class__" t)) ?_
  unfold Builtin.«object.__getattribute__»
  refine wpAny_bind (wpAny_of_eq (a := ((Value.ref x : Value), [Value.str "__class__" t])) (by first | rfl | (simp only [slotArgs]; rfl)) (wpAny_bind (wpAny_pure (wpAny_bind (T0.at (wpAny_bind (T3.at ?_)))))))
  show wpAny _ _ (holding [Value.builtin "object.__class__"] (call (.builtin "getset_descriptor.__get__") [.builtin "object.__class__", .ref x, .ref D]) >>= ret) _ _ _
  refine wpAny_bind (wpAny_holding (wpAny_call (class_get (s := ⟨hp, g, d, t + 1, os⟩) (ox := ox) (od := some dob) X I C.hm (wpAny_pure ?_))))
  show wpAny _ _ (handedOut (.ref D)) _ _ _
  rw [handedOut_of (v := .ref D) rfl]
  first
    | exact wpAny_pure (wpAny_pure h)
    | exact wpAny_pure h
    | exact wpAny_pure (wpAny_bind (wpAny_pure (wpAny_pure h)))
theorem kit_bexc (C : L2.ExcC K D) : KitX K (.ref x) (.ref D) (fun h => InstAt h x ox D (some dob)) where
  ty := fun _ _ _ I => I.type
  it := fun _ _ X _ => by
    obtain ⟨cdD, hcD, _⟩ := any_some C.hd
    unfold clsIn at hcD
    split at hcD
    · rename_i c' d' cd' sl' ho
      intro A' Q' E' s' k q
      unfold isType loadHead
      exact wpAny_bind (wpAny_loadPart (k _ _ (X _ _ ho)) (wpAny_pure q))
    · cases hcD
  ne := fun h tp dd its n sl X htp => by
    obtain ⟨cdD, hcD, _⟩ := any_some C.hd
    refine Bool.eq_false_iff.mpr fun q => ?_
    have e : D = tp := Value.ref.inj (beq_iff_eq.mp q)
    subst e
    unfold clsIn at hcD
    split at hcD
    · rename_i c' d' cd' sl' ho
      have z := (X _ _ ho).symm.trans htp
      cases z
    · cases hcD
  ca := fun X I k => bexc_class C X I k
end
open L2
/-- isinstance(e, c), e the caught exception -/
def rIsX (K : PySem.W.Frag) (D a : Addr) (cls : Value) (d : Option Addr) : List V → Hp → VK → Prop := fun xs H Q => cls = .ref D ∧ ∃ (c dd : Addr) (b : Bool) (fs : List (Str × V)), d = some dd ∧ xs = [.ref a, .ref c] ∧ H dd = some (.xd fs) ∧ PySem.W.kitOne K (.ref D) (.ref c) = some b ∧ Q (.bl b) H
theorem call_isX {X : Cx} {a D : Addr} {oe : Obj} {cls : Value} {d : Option Addr} {pn : List (Addr × Obj)} (C : ExcC X.K D) (hz : Zc cls d oe) (hf : ∃ vs, oe.data = .fields vs) : CallR (X.suite a ((a, oe) :: pn)) (.builtin "isinstance") (rIsX X.K D a cls d) := by
  intro pins s σ H xs us Q I r ⟨ec, c, dd, b, fs, ed, ex, hd, e, q⟩
  subst ex ec ed
  obtain ⟨u1, u2, rfl, r1, r2⟩ := vals2 r
  cases r1
  cases r2
  obtain ⟨hget, _⟩ := I.pin (a, oe) (List.mem_append_left _ List.mem_cons_self)
  obtain ⟨vs, hv⟩ := hf
  obtain ⟨mA, hns, _⟩ := (show ObjOk X.prog X.w H s.heap dd (.xd fs) from I.hok dd _ hd)
  obtain ⟨od, ho, _⟩ := lookIn_ns hns
  have J : PySem.W.InstAt s.heap a oe D (some od) := ⟨hget, hz.1, by unfold PySem.W.notCls; rw [hv] <;> rfl, by rw [hz.2]; exact ho⟩
  exact PySem.W.kia_one (kit_bexc C) I.kIn J e (fun z => nomatch z) fun tk => ⟨.bl b, H, I.kept (t' := tk) fun _ _ z => z, rfl, q⟩
end Fy
end
section
set_option Elab.async false
set_option linter.all false
set_option maxRecDepth 100000
set_option maxHeartbeats 2000000
/-! FzH: try: work() / except C as e: return e.at if isinstance(e, D) else .. / return "..". -/
namespace Fy
open PySem PySem.Spec PyProof.Rows L2 LamX
/-- what such a def tells of what it got -/
def THeard2 (CS : Addr) (non : Str) : (XK → Hp → VK → Prop) → Hp → VK → Prop := fun tl H Q =>
  tl (fun cls d H' => cls = .ref CS ∧ ∃ (dd : Addr) (fs : List (Str × V)) (v : V), d = some dd ∧ H' dd = some (.xd fs) ∧ fs.lookup ("at" : Str) = some v ∧ Q v H') H fun _ H' => Q (.str non) H'
theorem heard2_gives {X : Cx} {Ng : List Str} {x a c d n q oth non : Str} {sg : Scope} {g CF CS : Addr} {cdg : Value} {i j1 j2 : Nat} {p : Nat → Pos} (hgc : sg.names.lookup c = some .globalImplicit) (hmc : X.mg c = some (.ref CF)) (hdc : (c == ("__debug__" : Str)) = false)
    (hgd : sg.names.lookup d = some .globalImplicit) (hmd : X.mg d = some (.ref CS)) (hdd : (d == ("__debug__" : Str)) = false) (hgi : sg.names.lookup ("isinstance" : Str) = some .globalImplicit) (hmi : X.mg "isinstance" = none)
    (h0 : ∀ f : Addr, (L2.start Ng [V.ref f])[0]? = some (some (V.ref f))) (hN : Ng.Nodup) (hi : Ng[i]? = some n) (hln : sg.names.lookup n = some .local) (hnd : (n == ("__debug__" : Str)) = false) (hnc : (n == ("__classdict__" : Str)) = false)
    (T : XfC X.K CS) (C : ExcC X.K CS) (hno : PySem.W.findIn X.K (.ref CS) "at" = some none) (hk : sg.kind = .function) (hex : PySem.W.exmOne X.K (.ref CS) (.ref CF) = some true) (hki : PySem.W.kitOne X.K (.ref CS) (.ref CS) = some true) :
    GivesTo X Ng x sg g cdg (h2Body a n c d oth non j1 j2 p) a q (THeard2 CS non) := by
  intro f c' s H Q tl act hc h
  have hgl : Gl (cxOf C8.CX0 X.prog X.w X.K X.mg X.base Ng x sg g cdg X.A X.stack s H C8.E0).nox c := hgc
  have hgl2 : Gl (cxOf C8.CX0 X.prog X.w X.K X.mg X.base Ng x sg g cdg X.A X.stack s H C8.E0).nox d := hgd
  have hgl3 : Gl (cxOf C8.CX0 X.prog X.w X.K X.mg X.base Ng x sg g cdg X.A X.stack s H C8.E0).nox "isinstance" := hgi
  have hsuit : ∀ (a : Addr) (oe : Obj) (cls : Value) (dx : Option Addr) (pn : List (Addr × Obj)), Zc cls dx oe → (∃ vs, oe.data = .fields vs) →
      PSs ((cxOf C8.CX0 X.prog X.w X.K X.mg X.base Ng x sg g cdg X.A X.stack s H C8.E0).nox.suite a ((a, oe) :: pn)) [.Return (some (.IfExp (.Call (.Name "isinstance" (p 5)) [.Name n (p 6), .Name d (p 7)] [] (p 8)) (.Attribute (.Name n (p 9)) "at" (p 10)) (.Constant (.str oth) j1 (p 11)) (p 12))) (p 13)] (tRet (tIf (fun σ H Q => tCB (rIsX X.K CS a cls dx) (tCons (tVar i) (tCons (tC (V.ref CS)) tNil)) σ H fun x H' => ∃ k, TruV X.K x H' k ∧ Q k H') (tXf a cls dx CS "at" (tVar i)) (tC (V.str oth)))) := fun a oe cls dx pn hz hf =>
    pss_one (ps_ret (pe_ifExp (pt_truth (pe_callB (call_isX (X := (cxOf C8.CX0 X.prog X.w X.K X.mg X.base Ng x sg g cdg X.A X.stack s H C8.E0).nox) (D := CS) (cls := cls) (d := dx) C hz hf) hgl3 hmi (by decide +kernel)
        (pa_cons (pe_var (i := i) hi (.inl hln) hnd hnc) (pa_cons (pe_glob (v := .ref CS) hgl2 hmd rfl hdd) pa_nil rfl) rfl) (by decide +kernel) (by decide +kernel) rfl rfl) (fun _ => rfl))
      (pe_xf (X := (cxOf C8.CX0 X.prog X.w X.K X.mg X.base Ng x sg g cdg X.A X.stack s H C8.E0).nox) (C := CS) (cls := cls) (d := dx) T hno hz hf (pe_var (i := i) hi (.inl hln) hnd hnc) rfl) pe_str))
  refine ⟨_, pss_cons (ps_try_as (ts := fun a cls dx => tRet (tIf (fun σ H Q => tCB (rIsX X.K CS a cls dx) (tCons (tVar i) (tCons (tC (V.ref CS)) tNil)) σ H fun x H' => ∃ k, TruV X.K x H' k ∧ Q k H') (tXf a cls dx CS "at" (tVar i)) (tC (V.str oth)))) (X := (cxOf C8.CX0 X.prog X.w X.K X.mg X.base Ng x sg g cdg X.A X.stack s H C8.E0).nox) (c := .ref CF) (i := i)
      (tb := fun W D σ H => ∃ Ech : XK, (∀ cls d (σ' : L2.St) H', Ech cls d H' → σ'.length = Ng.length → W cls d σ' H') ∧ σ[0]? = some (some (.ref f)) ∧ H c' = some (CodeO c' q) ∧ tl Ech H fun _ H' => D.nx σ H')
      rfl rfl hN hi hln ⟨hgl, hdc, .inl hmc⟩ LamX.takes0 (fun W pn xe tk _ => ?_) hsuit) (pss_one (ps_ret pe_str)), ?_⟩
  · refine ⟨fun pins s' σ H' D I ⟨Ech, hW, h1, h2, h3⟩ => ?_⟩
    have hp := act _ pn xe Ech (p 1) (p 2) (takes_len tk) hW
    have hq := pss_one (ps_expr (pos := p 3) hp rfl)
    exact hq.run pins s' σ H' D I ⟨h1, h2, h3⟩
  · refine ⟨_, fun cls d σ' H' ⟨e1, e2⟩ hl => ⟨true, by rw [e1]; exact hex, fun hb a' ha' => ?_, fun hb => by cases hb⟩, h0 f, hc, h⟩
    obtain ⟨dd, fs, v, ed, e4, e5, qq⟩ := e2
    have hlt : i < σ'.length := by rw [hl]; exact (List.getElem?_eq_some_iff.mp hi).1
    have hv : (σ'.set i (some (V.ref a')))[i]? = some (some (.ref a')) := List.getElem?_set_self hlt
    refine ⟨.ref a', hv, e1, CS, dd, true, fs, ed, rfl, e4, hki, ⟨true, rfl, ?_⟩⟩
    exact ⟨.ref a', hv, rfl, e1, dd, fs, v, ed, e4, e5, qq⟩
end Fy
end
section
set_option Elab.async false
set_option linter.all false
set_option maxRecDepth 100000
set_option maxHeartbeats 2000000
/-! Fz5: x(lambda: e), where x tells what it heard. -/
namespace Fy
open PySem PySem.Spec PyProof.Rows L2 LamX
section
variable {g : Glo} {W : WX} {X : Cx}
theorem ext_of {H H1 : Hp} {ι : List Addr} (e : ExtN H H1) : Ext ι H ι H1 := ⟨List.prefix_refl _, fun b o h _ k => e b o h (nt_ne k), fun _ m n => absurd m n⟩
theorem pe_heard_ {k : Nat} {x c : Str} {fe : Env → Sto → R T} {params : Arguments} {body : Expr} {scope : Scope} {p lpos pos : Pos} (hK : X.K = g.K) (D : Deep g k X) (hd : HdOk g X.mg x c) (hg : Gl X x) (hp : noPar params = true) (L : LamS X.env.scope scope)
    (hb : ∀ (A : Around) (outer : List PySem.Env) (s : Shared) (H : Hp) (E : XK) (f c' : Addr), Room (4 * k + 4) (A.deeper (lamEnv X scope s.heap.objs.size f c')) → PE (lamCx X A outer s H E scope f c') body (tE g (fun c d _ H => E c d H) fe)) :
    PE X (.Call (.Name x p) [.Lambda params body scope lpos] [] pos) (tE g W (heardF c fe)) := by
  obtain ⟨fa, CS, pg, sg, dV, kV, doc, pm, cdv, ct, oc, an, od, osl, Ng, a, n, i, j, p1, p2, p3, p4, p5, p6, p7, p8, p9, p10, p11, hm, hk, lk, hcg, hbd, Sg, hN0, hva, hi, hln, hgc, hmc, hga, T, hno, d1, d2, d3, d4, d5, d6, hex, hst⟩ := hd.ok
  obtain ⟨co, Pt, TB, hcode, hmT, hu⟩ := D.tab
  have hpar : params = ⟨[], [], none, [], [], none, []⟩ := by
    unfold noPar at hp
    split at hp
    · rfl
    · cases hp
  subst hpar
  have key := pe_lamcall (T := g.T) (TT := THeard X.K CS) (k := 4 * k + 4) (params := ⟨[], [], none, [], [], none, []⟩) (t := fun E => tE g (fun c d _ H => E c d H) fe) (p := p) (lpos := lpos) (pos := pos) hg hm (hK ▸ hk) (hK ▸ lk) (hK ▸ hcg) (hK ▸ hbd) Sg hN0 hva
    (heard_gives (X := X) (q := X.env.qual ++ "<lambda>") hgc hmc d1 hst Sg.nd hi hln d2 d3 (hK ▸ T) (hK ▸ hno) Sg.kind) TB hcode hmT hu D.room L rfl (fun _ _ _ _ _ => rfl) hb d6 d4 d5
  refine PE.imp key fun σ H Q ⟨ι, ρ, s, re, rs, w⟩ => ⟨rs.tb, fun H1 eN T1 => ?_⟩
  have x1 : Ext ι H ι H1 := ext_of eN
  have k1 : ∀ b, b ∈ ι → H1 b = H b := fun b m => by
    obtain ⟨u, e, ku⟩ := rs.kind m
    rw [e]
    exact eN b u e (fun ps z => by rw [z] at ku; cases ku)
  refine ⟨ι, ρ, s, re.ext rs x1, rs.ext x1 k1 T1, ?_⟩
  unfold heardF at w
  cases hf : fe ρ s with
  | ok t s' =>
    rw [hf] at w
    exact fun ι' H' b x2 rs2 r2 => w ι' H' .non (x1.trans x2) rs2 (rlT.v .non)
  | ex y s' =>
    rw [hf] at w
    simp only at w
    split at w
    · rename_i hc
      intro ι' H' cv d x2 rs2 rx
      obtain ⟨ec, dx, v, ed, ex, rv⟩ := rx
      have ecv : cv = .ref CS := by rw [ec, hc, hga]
      refine ⟨true, by rw [ecv, hK]; exact hex, fun _ => ⟨ecv, dx, [("at", v)], v, ed, ex, ?_, w ι' H' v (x1.trans x2) rs2 (rlT.v rv)⟩, fun z => by cases z⟩
      simp [List.lookup]
    · exact w.elim
  | bad => rw [hf] at w; exact w.elim
theorem pe_heard2_ {k : Nat} {x c : Str} {fe : Env → Sto → R T} {params : Arguments} {body : Expr} {scope : Scope} {p lpos pos : Pos} (hK : X.K = g.K) (D : Deep g k X) (hd : Hd2Ok g X.mg x c) (hg : Gl X x) (hp : noPar params = true) (L : LamS X.env.scope scope)
    (hb : ∀ (A : Around) (outer : List PySem.Env) (s : Shared) (H : Hp) (E : XK) (f c' : Addr), Room (4 * k + 4) (A.deeper (lamEnv X scope s.heap.objs.size f c')) → PE (lamCx X A outer s H E scope f c') body (tE g (fun c d _ H => E c d H) fe)) :
    PE X (.Call (.Name x p) [.Lambda params body scope lpos] [] pos) (tE g W (heard2F c fe)) := by
  obtain ⟨fa, CF, CS, pg, sg, dV, kV, doc, pm, cdv, ct, oc, an, od, osl, Ng, a, n, cf, i, j1, j2, pp, hm, hk, lk, hcg, hbd, Sg, hN0, hva, hi, hln, hgc, hmc, hgd, hmd, hga, hgi, hmi, T, EC, hno, d1, d0, d2, d3, d4, d5, d6, hex, hki, hst⟩ := hd.ok
  obtain ⟨co, Pt, TB, hcode, hmT, hu⟩ := D.tab
  have hpar : params = ⟨[], [], none, [], [], none, []⟩ := by
    unfold noPar at hp
    split at hp
    · rfl
    · cases hp
  subst hpar
  have key := pe_lamcall (T := g.T) (TT := THeard2 CS "none") (k := 4 * k + 4) (params := ⟨[], [], none, [], [], none, []⟩) (t := fun E => tE g (fun c d _ H => E c d H) fe) (p := p) (lpos := lpos) (pos := pos) hg hm (hK ▸ hk) (hK ▸ lk) (hK ▸ hcg) (hK ▸ hbd) Sg hN0 hva
    (heard2_gives (X := X) (q := X.env.qual ++ "<lambda>") hgc hmc d1 hgd hmd d0 hgi hmi hst Sg.nd hi hln d2 d3 (hK ▸ T) (hK ▸ EC) (hK ▸ hno) Sg.kind (hK ▸ hex) (hK ▸ hki)) TB hcode hmT hu D.room L rfl (fun _ _ _ _ _ => rfl) hb d6 d4 d5
  refine PE.imp key fun σ H Q ⟨ι, ρ, s, re, rs, w⟩ => ⟨rs.tb, fun H1 eN T1 => ?_⟩
  have x1 : Ext ι H ι H1 := ext_of eN
  have k1 : ∀ b, b ∈ ι → H1 b = H b := fun b m => by
    obtain ⟨u, e, ku⟩ := rs.kind m
    rw [e]
    exact eN b u e (fun ps z => by rw [z] at ku; cases ku)
  refine ⟨ι, ρ, s, re.ext rs x1, rs.ext x1 k1 T1, ?_⟩
  unfold heard2F at w
  cases hf : fe ρ s with
  | ok t s' =>
    rw [hf] at w
    exact fun ι' H' b x2 rs2 r2 => w ι' H' (.str "none") (x1.trans x2) rs2 (rlT.v (.str _))
  | ex y s' =>
    rw [hf] at w
    simp only at w
    split at w
    · rename_i hc
      intro ι' H' cv d x2 rs2 rx
      obtain ⟨ec, dx, v, ed, ex, rv⟩ := rx
      have ecv : cv = .ref CS := by rw [ec, hc, hga]
      refine ⟨ecv, dx, [("at", v)], v, ed, ex, ?_, w ι' H' v (x1.trans x2) rs2 (rlT.v rv)⟩
      simp [List.lookup]
    · exact w.elim
  | bad => rw [hf] at w; exact w.elim
end
end Fy
end
section
set_option Elab.async false
set_option linter.all false
set_option maxRecDepth 100000
set_option maxHeartbeats 4000000
/-! Fz7: new dicts; get. -/
namespace Fy
open PySem PySem.Spec PyProof.Rows L2
section
variable {g : Glo} {W : WX} {X : Cx} {σ : L2.St} {ι ι1 ι' : List Addr} {H H1 H' : Hp} {s s' : Sto} {fa fb fc : Env → Sto → R T} {ρ : Env}
theorem tabs_sto {T : List (Addr × Str)} {a : Addr} {w u : HO} (h : H a = some w) (k : stoKind w = true) (t : LamX.Tabs T H) : LamX.Tabs T (L2.upd H a u) := fun p hp => by
  obtain ⟨ps, h1, h2, h3⟩ := t p hp
  have ne : ∀ {b : Addr} {o : HO}, H b = some o → stoKind o = false → b ≠ a := fun {b o} e z q => by
    subst q
    rw [h] at e; cases e
    rw [k] at z; cases z
  refine ⟨ps, by rw [upd_ne (ne h1 rfl)]; exact h1, h2, fun pos cv hc => ?_⟩
  obtain ⟨c, e1, e2⟩ := h3 pos cv hc
  exact ⟨c, e1, by rw [upd_ne (ne e2 rfl)]; exact e2⟩
theorem sto_ne {a b : Addr} {w o : HO} (h : H a = some w) (k : stoKind w = true) (e : H b = some o) (z : stoKind o = false) : b ≠ a := by
  rintro rfl
  rw [h] at e; cases e
  rw [k] at z; cases z
theorem RD.sto {a : Addr} {w u : HO} (h : H a = some w) (k : stoKind w = true) {d : Fy.D} {v : V} (r : RD g ι H d v) : RD g ι (L2.upd H a u) d v :=
  r.imp (fun _ _ q => q) (fun b vs q => by
    rcases q with q | ⟨o, q⟩
    · exact .inl (by rw [upd_ne (sto_ne h k q rfl)]; exact q)
    · exact .inr ⟨o, by rw [upd_ne (sto_ne h k q rfl)]; exact q⟩) fun b o vs q => by rw [upd_ne (sto_ne h k q rfl)]; exact q
/-- what stands in the store is changed -/
theorem RS.chg {n : Nat} {a : Addr} {w u : HO} {o : O} (rs : RS g ι s H) (hn : n < s.length) (ha : ι[n]? = some a) (hv : H a = some w) (k : stoKind w = true) (r : RO g ι (L2.upd H a u) a o) :
    RS g ι (s.set n o) (L2.upd H a u) ∧ Ext ι H ι (L2.upd H a u) := by
  have x : Ext ι H ι (L2.upd H a u) := ⟨List.prefix_refl _, fun b o e nb _ => by rw [upd_ne (fun q => nb (by rw [q]; exact List.mem_of_getElem? ha))]; exact e, fun _ m nm => absurd m nm⟩
  refine ⟨⟨rs.nd, by simp [rs.len], fun j o' e => ?_, tabs_sto hv k rs.tb⟩, x⟩
  by_cases hj : n = j
  · subst hj
    rw [List.getElem?_set_self hn] at e
    cases e
    exact ⟨a, ha, r⟩
  · rw [List.getElem?_set_ne hj] at e
    obtain ⟨b, eb, rb⟩ := rs.at_ j o' e
    have ne : b ≠ a := by
      rintro rfl
      obtain ⟨l1, e1⟩ := List.getElem?_eq_some_iff.mp ha
      obtain ⟨l2, e2⟩ := List.getElem?_eq_some_iff.mp eb
      exact hj ((List.getElem_inj rs.nd).mp (e1.trans e2.symm))
    exact ⟨b, eb, rb.move (upd_ne ne) fun q => q.sto hv k⟩
/-- a new thing goes into the store -/
theorem RS.more {a : Addr} {o : O} {ι0 : List Addr} {H0 : Hp} (rs : RS g ι s H) (x : Ext ι0 H0 ι H) (n : a ∉ ι) (f : nn H0 a) (r : RO g ι H a o) :
    RS g (ι ++ [a]) (s ++ [o]) H ∧ Ext ι0 H0 (ι ++ [a]) H ∧ RD g (ι ++ [a]) H (.loc s.length) (.ref a) := by
  have more : ∀ (n : Nat) (b : Addr), ι[n]? = some b → (ι ++ [a])[n]? = some b := fun n b h => by
    rw [List.getElem?_append_left (List.getElem?_eq_some_iff.mp h).1]
    exact h
  have mv : ∀ {b : Addr} {o : O}, RO g ι H b o → RO g (ι ++ [a]) H b o := fun q => q.move rfl fun z => z.imp more (fun _ _ h => h) fun _ _ _ h => h
  refine ⟨⟨?_, by simp [rs.len], fun k o' h => ?_, rs.tb⟩, ⟨x.pre.trans (List.prefix_append _ _), x.keep, fun b hb nb => ?_⟩, .loc (by rw [← rs.len]; simp)⟩
  · exact List.nodup_append.mpr ⟨rs.nd, by simp, fun b hb c hc => by
      have ec : c = a := by simpa using hc
      subst ec
      rintro rfl
      exact n hb⟩
  · by_cases hk : k < s.length
    · rw [List.getElem?_append_left hk] at h
      obtain ⟨b, e1, r1⟩ := rs.at_ k o' h
      exact ⟨b, more k b e1, mv r1⟩
    · rw [List.getElem?_append_right (by omega)] at h
      have hk0 : k - s.length = 0 := by
        cases q : k - s.length with
        | zero => rfl
        | succ m => rw [q] at h; simp at h
      rw [hk0] at h
      have eo : o = o' := by simpa using h
      subst eo
      have ek : k = ι.length := by rw [rs.len]; omega
      subst ek
      exact ⟨a, by simp, mv r⟩
  · rcases List.mem_append.mp hb with hb | hb
    · exact x.new b hb nb
    · have eb : b = a := by simpa using hb
      subst eb
      exact f
theorem pe_dnew_ {pos : Pos} : PE X (.Dict [] [] pos) (tE g W fun _ s => .ok (.v (.loc s.length)) (s ++ [.dic false []])) :=
  PE.imp pe_dnewK fun σ H Q ⟨ι, ρ, s, re, rs, w⟩ p hp => by
    have rs1 := rs.upd (o := .dK []) hp
    obtain ⟨rs2, x2, rd⟩ := rs1.more (o := .dic false []) (Ext.upd hp) (rs.free hp) (nn_none hp) ⟨[], upd_same, .nil⟩
    exact w _ _ _ x2 rs2 (rlT.v rd)
theorem Wp.stepA {α β γ δ : Type} {RA : Rl α β} {RB : Rl γ δ} {ι0 : List Addr} {H0 : Hp} {Q : δ → Hp → Prop} {m : R α} {k : α → Sto → R γ} {N : β → Hp → Prop} (h : Wp g W RB σ ι0 H0 (m.bind k) Q) (x0 : Ext ι0 H0 ι H)
    (hk : ∀ a s1 ι1 H1 b, Ext ι H ι1 H1 → RS g ι1 s1 H1 → RA.r H ι1 H1 a b → Wp g W RB σ ι0 H0 (k a s1) Q → N b H1) : Wp g W RA σ ι H m N := by
  cases m with
  | ok a s1 => exact fun ι1 H1 b x rs r => hk a s1 ι1 H1 b x rs r h
  | ex e s' => exact fun ι' H' c d x rs rx => h ι' H' c d (x0.trans x) rs rx
  | bad => exact h
theorem wp_keepA {α β : Type} {RB : Rl α β} {ι0 : List Addr} {H0 : Hp} {Q : β → Hp → Prop} {t : R T} {k : Fy.D → Sto → R α} {N : V → Hp → Prop} (h : Wp g W RB σ ι0 H0 (t.bind fun t s => (keepR t s).bind k) Q) (x0 : Ext ι0 H0 ι H)
    (hk : ∀ d s1 ι1 H1 v, Ext ι H ι1 H1 → RS g ι1 s1 H1 → RD g ι1 H1 d v → Wp g W RB σ ι0 H0 (k d s1) Q → N v H1) : Wp g W (rlT g) σ ι H t N :=
  Wp.stepA (RA := rlT g) h x0 fun t s1 ι1 H1 v x1 rs1 r1 w0 => by
    obtain ⟨ι2, rs2, x2, rd⟩ := keep_ok rs1 x1 r1.1 r1.2
    exact hk _ _ ι2 H1 v x2 rs2 rd w0
theorem pe_dic1_ {k v : Expr} {pos : Pos} (hk : PE X k (tE g W fa)) (hv : PE X v (tE g W fb)) :
    PE X (.Dict [some k] [v] pos) (tE g W fun ρ s => (fa ρ s).bind fun x s => (keepR x s).bind fun k s => (fb ρ s).bind fun y s => (keepR y s).bind fun v s => match dicNew k v s with | some s' => .ok (.v (.loc s.length)) s' | none => .bad) :=
  PE.imp (pe_disp (pps_cons hk hv pps_nil) rfl rfl (by simp) (by simp)) fun σ H Q ⟨ι, ρ, s, re, rs, w⟩ p hp => by
    have x0 := Ext.upd (ι := ι) (o := .dK []) hp
    have np := rs.free hp
    have rs0 := rs.upd (o := .dK []) hp
    refine ⟨ι, ρ, s, re.ext rs x0, rs0, wp_keepA (RB := rlT g) w x0 fun d s1 ι1 H1 u x1 rs1 rd w1 => ?_⟩
    refine ⟨ι1, ρ, s1, (re.ext rs x0).ext rs0 x1, rs1, wp_keepA (RB := rlT g) w1 (x0.trans x1) fun e s2 ι2 H2 z x2 rs2 rd2 w2 => ?_⟩
    have e1 : H1 p = some (.dK []) := x1.keep p _ upd_same np rfl
    have np1 : p ∉ ι1 := x1.out upd_same np
    have e2 : H2 p = some (.dK []) := x2.keep p _ e1 np1 rfl
    have np2 : p ∉ ι2 := x2.out e1 np1
    cases hd : dicNew d e s2 with
    | none => rw [hd] at w2; exact w2.elim
    | some s3 =>
      rw [hd] at w2
      simp only [dicNew, dkey, Bool.false_eq_true, if_false, Option.map_eq_some_iff] at hd
      obtain ⟨_, ⟨k', ek, rfl⟩, rfl⟩ := hd
      have eu : u = kV k' := dkA_ok (rd.ext rs1 x2) ek
      subst eu
      refine ⟨e2, [(k', z)], rfl, by simp, ?_⟩
      have mk : mergeK [] [(k', z)] = [(k', z)] := rfl
      rw [mk]
      have rs3 : RS g ι2 s2 (L2.upd H2 p (.dK [(k', z)])) := by
        refine ⟨rs2.nd, rs2.len, fun n o q => ?_, tabs_sto e2 rfl rs2.tb⟩
        obtain ⟨a, ea, ro⟩ := rs2.at_ n o q
        have ne : a ≠ p := fun y => np2 (y ▸ List.mem_of_getElem? ea)
        exact ⟨a, ea, ro.move (upd_ne ne) fun z => z.sto e2 rfl⟩
      have x02 := x0.trans (x1.trans x2)
      have x03 : Ext ι H ι2 (L2.upd H2 p (.dK [(k', z)])) :=
        ⟨x02.pre, fun b o q nb hq => by rw [upd_ne (ne_of_none q hp)]; exact x02.keep b o q nb hq, x02.new⟩
      obtain ⟨rs4, x4, rd4⟩ := rs3.more (o := .dic false [([k'], e)]) x03 np2 (nn_none hp) ⟨[(k', z)], upd_same, .cons ⟨rfl, rd2.sto e2 rfl⟩ .nil⟩
      exact w2 _ _ _ x4 rs4 (rlT.v rd4)
/-- a.get(k, e) -/
theorem pe_dget2_ {o k e : Expr} {apos cpos : Pos} (hu : X.A.units + 65 < cLine) (ho : PE X o (tE g W fa)) (hk : PE X k (tE g W fb)) (he : PE X e (tE g W fc)) (m : M2 X o "get" apos k e cpos) :
    PE X (.Call (.Attribute o "get" apos) [k, e] [] cpos) (tE g W fun ρ s => (fa ρ s).bind fun x s => if isDic x s then (fb ρ s).bind fun y s => (fc ρ s).bind fun z s => (keepR z s).bind fun z s => ofO ((dicAt x y s).map fun o => .v (o.getD z)) s else .bad) :=
  PE.imp (pe_dget2 (by omega) ho hk he m) fun σ H Q ⟨ι, ρ, s, re, rs, w⟩ => ⟨ι, ρ, s, re, rs, Wp.step (RA := rlT g) w fun x s1 ι1 H1 v x1 rs1 r1 w1 => by
    split at w1
    · rename_i hd
      obtain ⟨a, ea, isd⟩ : ∃ a, v = .ref a ∧ IsD H1 a := by
        unfold isDic at hd
        split at hd
        · rename_i n
          split at hd
          · rename_i t kvs hn
            cases r1.1 with
            | v r1 => cases r1 with
              | @loc _ a q =>
                obtain ⟨b, e1, ro⟩ := rs1.at_ n _ hn
                have eb : b = a := by rw [q] at e1; exact (Option.some.inj e1).symm
                subst eb
                cases t with
                | true => obtain ⟨vk, e2, _⟩ := ro; exact ⟨b, rfl, .inr ⟨vk, .inl e2⟩⟩
                | false => obtain ⟨vk, e2, _⟩ := ro; exact ⟨b, rfl, .inl ⟨vk, .inl e2⟩⟩
          · cases hd
        · cases hd
      refine ⟨a, ea, isd, ι1, ρ, s1, re.ext rs x1, rs1, Wp.step (RA := rlT g) w1 fun y s2 ι2 H2 u x2 rs2 r2 w2 => ?_⟩
      refine ⟨ι2, ρ, s2, (re.ext rs x1).ext rs1 x2, rs2, wp_keep (RB := rlT g) w2 fun d s3 ι3 H3 z x3 rs3 rd w3 => ?_⟩
      obtain ⟨t, et, q⟩ := w3.opt
      simp only [Option.map_eq_some_iff] at et
      obtain ⟨od, eo, rfl⟩ := et
      obtain ⟨a', ov, ea', dg, ro⟩ := dicAt_ok rs3 (r1.1.ext rs1 (x2.trans x3)) (r2.1.ext rs2 x3) eo
      rw [ea] at ea'
      cases ea'
      refine ⟨ov, dg, ?_⟩
      cases od with
      | none =>
        cases ov with
        | none => exact q ι3 H3 z Ext.refl rs3 (rlT.v rd)
        | some _ => exact ro.elim
      | some d' =>
        cases ov with
        | none => exact ro.elim
        | some z' => exact q ι3 H3 z' Ext.refl rs3 (rlT.v ro)
    · exact w1.elim⟩
end
end Fy
end
section
set_option Elab.async false
set_option linter.all false
set_option maxRecDepth 100000
set_option maxHeartbeats 4000000
/-! Fz8: dicts of rows; attributes; isinstance of several classes. -/
namespace Fy
open PySem PySem.Spec PyProof.Rows L2
section
variable {g : Glo} {W : WX} {X : Cx} {σ : L2.St} {ι ι1 ι' : List Addr} {H H1 H' : Hp} {s s' : Sto} {fa fb fc : Env → Sto → R T} {fk : Env → Sto → R (List D)} {ρ : Env}
theorem dvalT_rel {kvs : List (List Ky × Fy.D)} {vk : List (List Ky × V)} (r : RKV g ι H id kvs vk) (k : List Ky) : RVO g ι H (dval kvs k) (valV vk k) := by
  induction r with
  | nil => exact True.intro
  | @cons p q ps qs h t ih =>
    have h1 : p.1 = q.1 := h.1
    by_cases e : q.1 = k
    · have e1 : dval (p :: ps) k = some p.2 := by simp [dval, List.find?_cons, h1, e]
      rw [e1, valV_pos e]
      exact h.2
    · have e1 : dval (p :: ps) k = dval ps k := by simp [dval, List.find?_cons, h1, e]
      rw [e1, valV_neg e]
      exact ih
theorem dsetT_any {kvs : List (List Ky × Fy.D)} {vk : List (List Ky × V)} (r : RKV g ι H id kvs vk) (k : List Ky) : (kvs.any fun kv => decide (kv.1 = k)) = vk.any fun kv => decide (kv.1 = k) := by
  induction r with
  | nil => rfl
  | @cons p q ps qs h t ih =>
    have h1 : p.1 = q.1 := h.1
    simp only [List.any_cons, h1, ih]
theorem dsetT_map {kvs : List (List Ky × Fy.D)} {vk : List (List Ky × V)} (r : RKV g ι H id kvs vk) (k : List Ky) {d : Fy.D} {w : V} (rd : RD g ι H d w) :
    RKV g ι H id (kvs.map fun kv => if kv.1 = k then (kv.1, d) else kv) (vk.map fun kv => if kv.1 = k then (kv.1, w) else kv) := by
  induction r with
  | nil => exact .nil
  | @cons p q ps qs h t ih =>
    have h1 : p.1 = q.1 := h.1
    refine .cons ?_ ih
    by_cases e : q.1 = k
    · have e2 : p.1 = k := h1.trans e
      dsimp only
      rw [if_pos e2, if_pos e]
      exact h1.symm ▸ ⟨rfl, rd⟩
    · have e2 : ¬ p.1 = k := by rw [h1]; exact e
      dsimp only
      rw [if_neg e2, if_neg e]
      exact h
theorem rkv_app {kvs ls : List (List Ky × Fy.D)} {vk wk : List (List Ky × V)} (r : RKV g ι H id kvs vk) (r2 : RKV g ι H id ls wk) : RKV g ι H id (kvs ++ ls) (vk ++ wk) := by
  induction r with
  | nil => exact r2
  | cons h t ih => exact .cons h ih
theorem dsetT_rel {kvs : List (List Ky × Fy.D)} {vk : List (List Ky × V)} (r : RKV g ι H id kvs vk) (k : List Ky) {d : Fy.D} {w : V} (rd : RD g ι H d w) : RKV g ι H id (dset kvs k d) (putK vk k w) := by
  unfold dset putK
  rw [dsetT_any r k]
  split
  · exact dsetT_map r k rd
  · exact rkv_app r (.cons ⟨rfl, rd⟩ .nil)
theorem dkeys_ok : ∀ {ds : List Fy.D} {vs : List V} {ks : List Ky}, RDs g ι H ds vs → dkeys ds = some ks → vs = ks.map kV
  | _, _, _, .nil, e => by cases e; rfl
  | _, _, ks, .cons r t, e => by
    simp only [dkeys, Option.bind_eq_some_iff, Option.map_eq_some_iff] at e
    obtain ⟨k, e1, ks', e2, rfl⟩ := e
    rw [dkA_ok r e1, dkeys_ok t e2]
    rfl
theorem is_dic {x : T} {v : V} (rs : RS g ι s H) (r : RT g ι H x v) (h : isDic x s = true) : ∃ a, v = .ref a ∧ IsD H a := by
  unfold isDic at h
  split at h
  · rename_i n
    split at h
    · rename_i t kvs hn
      cases r with
      | v r => cases r with
        | @loc _ a q =>
          obtain ⟨b, e1, ro⟩ := rs.at_ n _ hn
          have eb : b = a := by rw [q] at e1; exact (Option.some.inj e1).symm
          subst eb
          cases t with
          | true => obtain ⟨vk, e2, _⟩ := ro; exact ⟨b, rfl, .inr ⟨vk, .inl e2⟩⟩
          | false => obtain ⟨vk, e2, _⟩ := ro; exact ⟨b, rfl, .inl ⟨vk, .inl e2⟩⟩
    · cases h
  · cases h
theorem dicAtT_ok {x : T} {ks : List Fy.D} {v : V} {vs : List V} {b : Addr} {o : Option Fy.D} (rs : RS g ι s H) (r1 : RT g ι H x v) (r2 : RDs g ι H ks vs) (hb : H b = some (.tup vs)) (e : dicAtT x ks s = some o) :
    ∃ a ov, v = .ref a ∧ DGet H a (.ref b) ov ∧ RVO g ι H o ov := by
  unfold dicAtT at e
  split at e
  · rename_i n
    split at e
    · rename_i kvs hn
      cases r1 with
      | v r1 => cases r1 with
        | @loc _ a q =>
          obtain ⟨c, e1, ro⟩ := rs.at_ n _ hn
          have eb : c = a := by rw [q] at e1; exact (Option.some.inj e1).symm
          subst eb
          obtain ⟨vk, e2, rk⟩ := ro
          simp only [Option.map_eq_some_iff] at e
          obtain ⟨k, ek, rfl⟩ := e
          have ev := dkeys_ok r2 ek
          subst ev
          exact ⟨c, _, rfl, .t e2 hb, dvalT_rel rk k⟩
    · cases e
  · cases e
theorem dicPutT_ok {o : T} {ks : List Fy.D} {d : Fy.D} {s' : Sto} {v u : V} {vs : List V} {b : Addr} (rs : RS g ι s H) (r1 : RT g ι H o v) (r2 : RDs g ι H ks vs) (hb : H b = some (.tup vs)) (r3 : RD g ι H d u) (e : dicPutT o ks d s = some s') :
    ∃ a H', v = .ref a ∧ DPut H a (.ref b) u H' ∧ RS g ι s' H' ∧ Ext ι H ι H' := by
  unfold dicPutT at e
  split at e
  · rename_i n
    split at e
    · rename_i kvs hn
      cases r1 with
      | v r1 => cases r1 with
        | @loc _ a q =>
          obtain ⟨c, e1, ro⟩ := rs.at_ n _ hn
          have eb : c = a := by rw [q] at e1; exact (Option.some.inj e1).symm
          subst eb
          obtain ⟨vk, e2, rk⟩ := ro
          simp only [Option.bind_eq_some_iff] at e
          obtain ⟨k, ek, e⟩ := e
          split at e
          · rename_i hl
            cases e
            have ev := dkeys_ok r2 ek
            subst ev
            have hs : sizeLine = LIM := sizeLine_eq
            have hlen : vk.length < sizeLine := by
              have : kvs.length = vk.length := Paired.length rk
              rw [hs, ← this]; exact hl
            obtain ⟨rs', x⟩ := rs.chg (o := .dic true (dset kvs k d)) (u := .dT (putK vk k u)) (List.getElem?_eq_some_iff.mp hn).1 q e2 rfl ⟨_, upd_same, (dsetT_rel rk k r3).of fun z => z.sto e2 rfl⟩
            exact ⟨c, _, rfl, .inr ⟨vk, k, b, e2, rfl, hb, hlen, rfl⟩, rs', x⟩
          · cases e
    · cases e
  · cases e
theorem pe_dnewT_ {pos : Pos} : PE X (.Dict [] [] pos) (tE g W fun _ s => .ok (.v (.loc s.length)) (s ++ [.dic true []])) :=
  PE.imp pe_dnewT fun σ H Q ⟨ι, ρ, s, re, rs, w⟩ p hp => by
    have rs1 := rs.upd (o := .dT []) hp
    obtain ⟨rs2, x2, rd⟩ := rs1.more (o := .dic true []) (Ext.upd hp) (rs.free hp) (nn_none hp) ⟨[], upd_same, .nil⟩
    exact w _ _ _ x2 rs2 (rlT.v rd)
/-- a.get((..), e) -/
theorem pe_dgetT_ {o e : Expr} {ks : List Expr} {n : Nat} {apos cpos kpos : Pos} (hu : X.A.units + 65 < cLine) (ho : PE X o (tE g W fa)) (hk : PA X ks (tA g W fk)) (he : PE X e (tE g W fc)) (m : M2 X o "get" apos (.Tuple ks n kpos) e cpos) :
    PE X (.Call (.Attribute o "get" apos) [.Tuple ks n kpos, e] [] cpos) (tE g W fun ρ s => (fa ρ s).bind fun x s => if isDic x s then (fk ρ s).bind fun ks s => if ks.length ≤ LIM then (fc ρ s).bind fun z s => (keepR z s).bind fun z s => ofO ((dicAtT x ks s).map fun o => .v (o.getD z)) s else .bad else .bad) :=
  PE.imp (pe_dget2 (by omega) ho (pe_tup hk) he m) fun σ H Q ⟨ι, ρ, s, re, rs, w⟩ => ⟨ι, ρ, s, re, rs, Wp.step (RA := rlT g) w fun x s1 ι1 H1 v x1 rs1 r1 w1 => by
    split at w1
    · rename_i hd
      obtain ⟨a, ea, isd⟩ := is_dic rs1 r1.1 hd
      refine ⟨a, ea, isd, ι1, ρ, s1, re.ext rs x1, rs1, Wp.step (RA := rlDs g) w1 fun ks' s2 ι2 H2 vs x2 rs2 rk w2 => ?_⟩
      have hs : sizeLine = LIM := sizeLine_eq
      have hlen : ks'.length = vs.length := RDs.length rk
      have rk : RDs g ι2 H2 ks' vs := rk
      split at w2
      · rename_i hz
        refine ⟨by rw [hs, ← hlen]; exact hz, fun p hp => ?_⟩
        have x0 := Ext.upd (ι := ι2) (o := .tup vs) hp
        have np := rs2.free hp
        have rs0 := rs2.upd (o := .tup vs) hp
        refine ⟨ι2, ρ, s2, ((re.ext rs x1).ext rs1 x2).ext rs2 x0, rs0, wp_keepA (RB := rlT g) w2 x0 fun d s3 ι3 H3 z x3 rs3 rd w3 => ?_⟩
        have e3 : H3 p = some (.tup vs) := x3.keep p _ upd_same np rfl
        obtain ⟨t, et, q⟩ := w3.opt
        simp only [Option.map_eq_some_iff] at et
        obtain ⟨od, eo, rfl⟩ := et
        obtain ⟨a', ov, ea', dg, ro⟩ := dicAtT_ok rs3 (r1.1.ext rs1 (x2.trans (x0.trans x3))) ((rk.ext rs2 x0).ext rs0 x3) e3 eo
        rw [ea] at ea'
        cases ea'
        refine ⟨ov, dg, ?_⟩
        have x03 := x0.trans x3
        cases od with
        | none =>
          cases ov with
          | none => exact q ι3 H3 z x03 rs3 (rlT.v rd)
          | some _ => exact ro.elim
        | some d' =>
          cases ov with
          | none => exact ro.elim
          | some z' => exact q ι3 H3 z' x03 rs3 (rlT.v ro)
      · exact w2.elim
    · exact w1.elim⟩

/-! ### attributes -/
theorem RF.get {fs : List (Str × Fy.D)} {vs : List (Str × V)} (r : RF g ι H fs vs) {f : Str} {d : Fy.D} (e : fget fs f = some d) : ∃ v, vs.lookup f = some v ∧ RD g ι H d v := by
  induction r with
  | nil => cases e
  | @cons p q ps qs h t ih =>
    obtain ⟨p1, p2⟩ := p
    obtain ⟨q1, q2⟩ := q
    have h1 : p1 = q1 := h.1
    subst h1
    by_cases ef : f = p1
    · subst ef
      have e1 : p2 = d := by simpa [fget, List.lookup_cons] using e
      subst e1
      exact ⟨q2, by simp [List.lookup_cons], h.2⟩
    · have nb : (f == p1) = false := by simpa using ef
      have e1 : fget ps f = some d := by simpa [fget, List.lookup_cons, nb] using e
      obtain ⟨v, e2, r2⟩ := ih e1
      exact ⟨v, by simpa [List.lookup_cons, nb] using e2, r2⟩
theorem fget_mem {f : Str} {d : Fy.D} : ∀ {fs : List (Str × Fy.D)}, fget fs f = some d → (f, d) ∈ fs
  | [], e => by cases e
  | p :: r, e => by
    obtain ⟨p1, p2⟩ := p
    by_cases ef : f = p1
    · subst ef
      have e1 : p2 = d := by simpa [fget, List.lookup_cons] using e
      subst e1
      exact List.mem_cons_self ..
    · have nb : (f == p1) = false := by simpa using ef
      exact List.mem_cons_of_mem _ (fget_mem (by simpa [fget, List.lookup_cons, nb] using e))
theorem pe_attr_ {o : Expr} {f : Str} {pos : Pos} (hK : X.K = g.K) (ho : PE X o (tE g W fa)) (hb : baseE o = true) : PE X (.Attribute o f pos) (tE g W fun ρ s => (fa ρ s).bind fun x s => ofO ((fldAt x f s).map .v) s) :=
  PE.imp (pe_fld ho (base_of hb _ _)) fun σ H Q ⟨ι, ρ, s, re, rs, w⟩ => ⟨ι, ρ, s, re, rs, Wp.step (RA := rlT g) w fun x s1 ι1 H1 v x1 rs1 r1 w1 => by
    obtain ⟨t, et, q⟩ := w1.opt
    simp only [Option.map_eq_some_iff] at et
    obtain ⟨d, ed, rfl⟩ := et
    unfold fldAt at ed
    split at ed
    · rename_i n
      split at ed
      · rename_i c fs hn
        cases r1.1 with
        | v r1 => cases r1 with
          | @loc _ a z =>
            obtain ⟨b, e1, ro⟩ := rs1.at_ n _ hn
            have eb : b = a := by rw [z] at e1; exact (Option.some.inj e1).symm
            subst eb
            obtain ⟨dx, vs, e2, rf, ci⟩ := ro
            obtain ⟨u, eu, ru⟩ := rf.get ed
            rw [hK]
            exact ⟨b, _, dx, vs, u, rfl, e2, ci.cls, ci.na _ (fget_mem ed), eu, q ι1 H1 u Ext.refl rs1 (rlT.v ru)⟩
      · cases ed
    · cases ed⟩

/-! ### isinstance of several classes -/
theorem any_kit {n : String} (hn : n ∈ ["NoneType", "bool", "int", "str", "tuple", "list", "dict"]) : ∀ ts : List (Str × String), (∀ c ∈ ts, c.2 ∈ kinds) → PySem.W.kitAny g.K (.type n) (ts.map fun c => Value.type c.2) = some (ts.any fun c => isSub n c.2)
  | [], _ => rfl
  | c :: ts, h => by
    have h1 := kit_ty (K := g.K) (kit_kinds n hn c.2 (h c (List.mem_cons_self ..)))
    have ih := any_kit hn ts fun x hx => h x (List.mem_cons_of_mem _ hx)
    rw [List.map_cons, List.any_cons]
    refine kitAny_cons h1 (fun e => ?_) fun e => by rw [e]; rfl
    rw [ih, e]; rfl
/-- the classes as arguments -/
def tTys : List (Str × String) → TA
  | [] => tNil
  | c :: ts => tCons (tC (.ty c.2)) (tTys ts)
theorem tTys_ok {Q : List V → Hp → Prop} : ∀ (ts : List (Str × String)) (σ : L2.St) (H : Hp), Q (ts.map fun c => V.ty c.2) H → tTys ts σ H Q
  | [], _, _, h => h
  | c :: ts, σ, H, h => tTys_ok (Q := fun xs H => Q (V.ty c.2 :: xs) H) ts σ H h
theorem tys_paired : ∀ ts : List (Str × String), Paired ClsV (ts.map fun c => V.ty c.2) (ts.map fun c => Value.type c.2)
  | [] => .nil
  | c :: ts => .cons (.ty _) (tys_paired ts)
theorem pe_isi_ {o : Expr} {es : List Expr} {ts : List (Str × String)} {n : Nat} {p kpos pos : Pos} (hK : X.K = g.K) (hg : Gl X "isinstance") (hm : X.mg "isinstance" = none) (ho : PE X o (tE g W fa)) (hes : PA X es (tTys ts)) (hk : ∀ c ∈ ts, c.2 ∈ kinds) (hz : ts.length ≤ 100) (hs : notStar o = true) :
    PE X (.Call (.Name "isinstance" p) [o, .Tuple es n kpos] [] pos) (tE g W fun ρ s => (fa ρ s).bind fun x s => ofO ((tyOf x s).map fun t => .v (.bl (ts.any fun c => isSub t c.2))) s) := by
  have s1 := star_of hs [.Tuple es n kpos] X.env
  refine PE.imp (pe_callB call_isiT hg hm (by decide +kernel) (pa_cons ho (pa_cons (pe_tup hes) pa_nil rfl) s1) (by decide +kernel) (by decide +kernel) s1 rfl) fun σ H Q ⟨ι, ρ, s, re, rs, w⟩ => ?_
  refine ⟨ι, ρ, s, re, rs, Wp.step (RA := rlT g) w fun x s1 ι1 H1 v x1 rs1 r1 w1 => ?_⟩
  refine tTys_ok ts σ H1 ⟨by rw [List.length_map, sizeLine_eq]; omega, fun q hq => ?_⟩
  obtain ⟨t, et, qq⟩ := w1.opt
  simp only [Option.map_eq_some_iff] at et
  obtain ⟨n, en, rfl⟩ := et
  have x0 := Ext.upd (ι := ι1) (o := .tup (ts.map fun c => V.ty c.2)) hq
  have rs0 := rs1.upd (o := .tup (ts.map fun c => V.ty c.2)) hq
  obtain ⟨tx, hn⟩ := ty_ok rs0 (r1.1.ext rs1 x0) en
  exact ⟨v, q, _, _, _, _, rfl, upd_same, tys_paired ts, by rw [hK]; exact tx, by rw [hK]; exact any_kit hn ts hk, qq ι1 _ _ x0 rs0 (rlT.v (.bl _))⟩

/-! ### C(..), a new instance -/
/-- the reading: what is raised in __init__ is wished for at the caller's slots -/
def tMakeSD (C : Addr) (sp : Sp) (E : L2.St → XK) (t : TA) : TE := fun σ H Q => t σ H fun us H1 => ∀ a b, H1 a = none → H1 b = none → b ≠ a → sp (V.ref a :: us) (L2.upd (L2.upd H1 b (.own a)) a (.ins C b [])) (fun v H2 => v = .non ∧ Q (.ref a) H2) (E σ)
theorem make_goes {k : Nat} {f C : Addr} {fd : FuncData} {ps : List Str} {sp : Sp} {E : L2.St → XK} {pins : List (Addr × Obj)} {sh : Shared} {Q : VK} {us : List Value} {vs : List V} (M : Mk X.K C f) (F : FnOk X.prog X.w X.K X.mg X.base (L2.CX X.prog X.w) k f fd ps sp)
    (room : Room (k + 1) X.A) (B : L2.Binds X.K fd ps []) (pass : PassesAt (L2.CX X.prog X.w) X σ (E σ)) (I : Inv X pins σ H sh) (r : Vals vs us)
    (h : ∀ a b, H a = none → H b = none → b ≠ a → sp (V.ref a :: vs) (L2.upd (L2.upd H b (.own a)) a (.ins C b [])) (fun v H2 => v = .non ∧ Q (.ref a) H2) (E σ)) :
    wpAny (model X.prog X.w) X.A (call (.ref C) us) (EP X pins σ Q) X.xe sh := by
  have n1 := I.hok.fresh (Nat.le_refl sh.heap.objs.size)
  have n2 := I.hok.fresh (Nat.le_succ sh.heap.objs.size)
  have want := h _ _ n2 n1 (Nat.ne_of_lt (Nat.lt_succ_self _))
  have J := I.made (C := C)
  have r1 : Vals (V.ref (sh.heap.objs.size + 1) :: vs) (Value.ref (sh.heap.objs.size + 1) :: us) := .cons rfl r
  have len : (Value.ref (sh.heap.objs.size + 1) :: us ++ []).length = ps.length := by
    rw [List.append_nil, ← r1.length]
    exact F.len _ _ _ _ want
  have bnd := B _ (Value.ref (sh.heap.objs.size + 1) :: us) J.kIn len
  rw [List.append_nil] at bnd
  have go := F.run _ X.stack _ _ ⟨Value.ref (sh.heap.objs.size + 1) :: us, []⟩ _ _ _ _ (room.make C us []) (J.env0.make C us []) bnd r1 want
  refine wpAny_call (make_map (f := f) I.kIn M.makes M.init (beq_iff_eq.mp M.fn) (codeAny_mono go fun res s' hq => ?_))
  match res, hq with
  | .error e, hq => exact pass pins _ _ e s' J hq
  | .ok (.ret u), hq =>
    obtain ⟨v, H', I', rv, ev, q⟩ := J.after hq
    cases ev
    exact ⟨rv, V.ref (sh.heap.objs.size + 1), H', I', rfl, q⟩
theorem pe_makeSD {k : Nat} {f C : Addr} {fd : FuncData} {ps : List Str} {sp : Sp} {E : L2.St → XK} {x : Str} {e : Expr} {es : List Expr} {p pos : Pos} {t : TA} (M : Mk X.K C f) (F : FnOk X.prog X.w X.K X.mg X.base (L2.CX X.prog X.w) k f fd ps sp)
    (room : Room (k + 1) X.A) (hg : Gl X x) (hm : X.mg x = some (.ref C)) (B : L2.Binds X.K fd ps []) (pass : ∀ σ, PassesAt (L2.CX X.prog X.w) X σ (E σ)) (ha : PA X (e :: es) t) (hdb : (x == ("__debug__" : Str)) = false)
    (he : starEach (e :: es) X.env = (false, eval e X.env) :: starEach es X.env) (hpl : (backTo pos (starEach es X.env)).any (·.1) = false) : PE X (.Call (.Name x p) (e :: es) [] pos) (tMakeSD C sp E t) := by
  constructor
  intro pins sh σ H Q I h
  refine wpAny_Call_Name_kw (ld_glob I hg hm ?_ hdb)
  have args := ha.run pos pins sh σ H _ I h
  refine PySem.W.callWith_K (h₀ := X.base) I.ok.mod.kin M.kp (thn args fun us s1 hu => ?_) he hpl
  obtain ⟨vs, H1, I1, r, q⟩ := hu
  exact ⟨I1.kIn, make_goes M F room B (pass σ) I1 r q⟩
theorem nn_upd {a b : Addr} {o : HO} (h : nn H a) (n : a ≠ b) : nn (L2.upd H b o) a := fun u e => h u (by rw [upd_ne n] at e; exact e)
theorem pe_new_ {tb : Tab} {wf k : Nat} {fs : Env → Sto → R (List Fy.D)} {c f : Str} {p pos : Pos} {y : Expr} {ys : List Expr} (cx : CtxA g tb wf k W X) (hg : Gl X c) (hx : okNm c = true) (har : arM tb c f (ys.length + 1) = true) (ha : PA X (y :: ys) (tA g W fs))
    (hlen : ∀ ρ s ds s', fs ρ s = .ok ds s' → ds.length = ys.length + 1)
    (he : starEach (y :: ys) X.env = (false, eval y X.env) :: starEach ys X.env) (hpl : (backTo pos (starEach ys X.env)).any (·.1) = false) :
    PE X (.Call (.Name c p) (y :: ys) [] pos) (tE g W fun ρ s => (fs ρ s).bind fun xs s => (run tb wf k f (.loc s.length :: xs) (s ++ [.ins c []])).bind fun t s' => match t with | .v .non => .ok (.v (.loc s.length)) s' | _ => .bad) := by
  have hdb : (c == ("__debug__" : Str)) = false := by
    unfold okNm at hx
    simp only [Bool.and_eq_true, Bool.not_eq_true'] at hx
    exact hx.1
  unfold arM at har
  cases hd : tb f with
  | none => rw [hd] at har; cases har
  | some d =>
    rw [hd] at har
    simp only [Bool.and_eq_true, decide_eq_true_eq] at har
    obtain ⟨fa, fd, ps, F, hps, hP, hb⟩ := (cx.calls f d hd).ok
    unfold Placed at hP
    rw [har.1] at hP
    obtain ⟨C, hm, hga, M, cl⟩ := hP
    obtain ⟨dv, dvs, B, hv, hrd⟩ := hb d.np (Nat.le_refl _) (by omega)
    have e0 : dvs = [] := by
      have z := hrd [] (fun _ => none)
      rw [Nat.add_sub_cancel, List.drop_length] at z
      cases z; rfl
    subst e0
    have e1 : dv = [] := by
      have z := Vals.length hv
      simpa using z.symm
    subst e1
    rw [← cx.hK] at B M
    refine PE.imp (pe_makeSD (E := fun σ c d H => W c d σ H) M (by rw [cx.hK]; exact F) cx.room hg hm B (fun σ => passAt cx.tk σ) ha hdb he hpl) fun σ H Q ⟨ι, ρ, s, re, rs, w⟩ => ?_
    refine ⟨ι, ρ, s, re, rs, Wp.step0 (RA := rlDs g) w fun ds s1 ι1 H1 vs h1 x1 rs1 rds w0 => fun a b na nb hab => ?_⟩
    have hl := hlen _ _ _ _ h1
    have xb := Ext.upd (ι := ι1) (o := .own a) nb
    have rsb := rs1.upd (o := .own a) nb
    have na' : (L2.upd H1 b (.own a)) a = none := by rw [upd_ne (Ne.symm hab)]; exact na
    have xa := Ext.upd (ι := ι1) (o := .ins C b []) na'
    have rsa := rsb.upd (o := .ins C b []) na'
    obtain ⟨rs2, x2, rd⟩ := rsa.more (o := .ins c []) (xb.trans xa) (rsb.free na') (nn_none na) ⟨b, [], by rw [hga]; exact upd_same, .nil, ⟨by rw [hga]; exact cl, fun z hz => by cases hz⟩⟩
    have rds : RDs g ι1 H1 ds vs := rds
    have rds2 : RDs g (ι1 ++ [a]) _ (.loc s1.length :: ds) (V.ref a :: vs) := .cons rd (rds.ext rs1 x2)
    refine ⟨ι1 ++ [a], s1 ++ [.ins c []], .loc s1.length :: ds, rs2, rds2, ?_, ?_⟩
    · rw [← rds2.length, List.length_cons, hl]; omega
    · have w1 := Wp.shift w0 (x1.trans x2)
      cases hr : run tb wf k f (.loc s1.length :: ds) (s1 ++ [.ins c []]) with
      | ok t s' =>
        rw [hr] at w1
        simp only [R.bind_ok] at w1
        intro ι' H' v x3 rs3 r3
        match t, r3, w1 with
        | .v .non, r3, w1 =>
          have ev : v = .non := by
            cases r3.1 with | v q => cases q; rfl
          exact ⟨ev, w1 ι' H' _ x3 rs3 (rlT.v (rd.ext rs2 x3))⟩
        | .v (.bl _), _, w1 | .v (.int _), _, w1 | .v (.str _), _, w1 | .v (.tup _), _, w1 | .v (.fro _), _, w1 | .v (.loc _), _, w1 | .v (.ty _), _, w1 | .v (.gl _), _, w1 | .l _, _, w1 => exact w1.elim
      | ex e s' => rw [hr] at w1; exact w1
      | bad => rw [hr] at w1; exact w1
end
end Fy
end
section
set_option Elab.async false
set_option linter.all false
set_option maxRecDepth 100000
set_option maxHeartbeats 4000000
/-! FzS: rows of ints, sorted. -/
namespace Fy
open PySem PySem.Spec PyProof.Rows L2
theorem ordL_total : ∀ a b : List Int, (ordL 1 a b || ordL 1 b a) = true
  | [], [] => by decide
  | [], _ :: _ => by simp [ordL, ordI]
  | _ :: _, [] => by simp [ordL, ordI]
  | x :: xs, y :: ys => by
    by_cases e : x = y
    · subst e
      simpa [ordL] using ordL_total xs ys
    · have e' : ¬ y = x := fun z => e z.symm
      simp only [ordL, if_neg e, if_neg e', ordI, Bool.or_eq_true, decide_eq_true_eq]
      omega
theorem ordL_trans : ∀ a b c : List Int, ordL 1 a b = true → ordL 1 b c = true → ordL 1 a c = true
  | [], b, [], _, _ => by decide
  | [], b, _ :: _, _, _ => by simp [ordL, ordI]
  | _ :: _, [], _, h, _ => by simp [ordL, ordI] at h
  | _ :: _, _ :: _, [], _, h => by simp [ordL, ordI] at h
  | x :: xs, y :: ys, z :: zs, h1, h2 => by
    by_cases e1 : x = y
    · subst e1
      have h1' : ordL 1 xs ys = true := by simpa [ordL] using h1
      by_cases e2 : x = z
      · subst e2
        have h2' : ordL 1 ys zs = true := by simpa [ordL] using h2
        simpa [ordL] using ordL_trans xs ys zs h1' h2'
      · simpa [ordL, e2] using h2
    · have l1 : x ≤ y := by simpa [ordL, e1, ordI] using h1
      by_cases e2 : y = z
      · subst e2
        simpa [ordL, e1] using h1
      · have l2 : y ≤ z := by simpa [ordL, e2, ordI] using h2
        have e3 : ¬ x = z := by omega
        simp only [ordL, if_neg e3, ordI, decide_eq_true_eq]
        omega
theorem ordL_anti : ∀ a b : List Int, ordL 1 a b = true → ordL 1 b a = true → a = b
  | [], [], _, _ => rfl
  | [], _ :: _, _, h => by simp [ordL, ordI] at h
  | _ :: _, [], h, _ => by simp [ordL, ordI] at h
  | x :: xs, y :: ys, h1, h2 => by
    by_cases e : x = y
    · subst e
      rw [ordL_anti xs ys (by simpa [ordL] using h1) (by simpa [ordL] using h2)]
    · have e' : ¬ y = x := fun z => e z.symm
      have l1 : x ≤ y := by simpa [ordL, e, ordI] using h1
      have l2 : y ≤ x := by simpa [ordL, e', ordI] using h2
      omega
/-- two sorted rows of the same things are one -/
theorem sorted_one {α : Type} {le : α → α → Bool} (anti : ∀ a b, le a b = true → le b a = true → a = b) : ∀ {l m : List α}, l.Perm m → l.Pairwise (fun a b => le a b = true) → m.Pairwise (fun a b => le a b = true) → l = m
  | [], m, p, _, _ => (List.nil_perm.mp p).symm
  | x :: l, [], p, _, _ => (List.perm_nil.mp p)
  | x :: l, y :: m, p, h1, h2 => by
    have e : x = y := by
      have mx := p.mem_iff.mp (List.mem_cons_self (a := x) (l := l))
      have my := p.mem_iff.mpr (List.mem_cons_self (a := y) (l := m))
      rcases List.mem_cons.mp mx with e | mx
      · exact e
      · rcases List.mem_cons.mp my with e | my
        · exact e.symm
        · exact anti x y ((List.pairwise_cons.mp h1).1 y my) ((List.pairwise_cons.mp h2).1 x mx)
    subst e
    rw [sorted_one anti ((List.perm_cons x).mp p) (List.pairwise_cons.mp h1).2 (List.pairwise_cons.mp h2).2]
theorem code_ord {B : Int} : ∀ a b : List Int, a.length = b.length → TS.Bd B a → TS.Bd B b → TS.code B a ≤ TS.code B b → ordL 1 a b = true
  | [], [], _, _, _, _ => by decide
  | [], _ :: _, h, _, _, _ => by simp at h
  | _ :: _, [], h, _, _, _ => by simp at h
  | x :: xs, y :: ys, hl, h1, h2, h => by
    have hl' : xs.length = ys.length := by simpa using hl
    by_cases e : x = y
    · subst e
      have n : ¬ TS.code B ys < TS.code B xs := fun z => by
        have := (TS.code_same (d := x) hl'.symm).mpr z
        omega
      simpa [ordL] using code_ord xs ys hl' h1.tail h2.tail (by omega)
    · have n : ¬ y < x := fun z => by
        have := TS.code_lt hl'.symm h2.tail h1.tail z
        omega
      simp only [ordL, if_neg e, ordI, decide_eq_true_eq]
      omega
theorem mem_dd {α : Type} [DecidableEq α] {x : α} : ∀ {l : List α}, x ∈ dd l ↔ x ∈ l
  | [] => Iff.rfl
  | y :: l => by
    unfold dd
    split
    · rename_i hy
      rw [mem_dd, List.mem_cons]
      exact ⟨.inr, fun h => h.elim (fun e => e ▸ hy) id⟩
    · rw [List.mem_cons, List.mem_cons, mem_dd]
theorem nodup_dd {α : Type} [DecidableEq α] : ∀ l : List α, (dd l).Nodup
  | [] => List.nodup_nil
  | y :: l => by
    unfold dd
    split
    · exact nodup_dd l
    · rename_i hy
      exact List.nodup_cons.mpr ⟨fun h => hy (mem_dd.mp h), nodup_dd l⟩
theorem srt_is {rows L : List (List Int)} (hn : L.Nodup) (hm : ∀ r, r ∈ L ↔ r ∈ rows) (hp : L.Pairwise (fun a b => ordL 1 a b = true)) : L = srt rows := by
  have p1 : L.Perm (dd rows) := (List.perm_ext_iff_of_nodup hn (nodup_dd rows)).mpr fun r => (hm r).trans mem_dd.symm
  have p2 : (srt rows).Perm (dd rows) := List.mergeSort_perm _ _
  exact sorted_one ordL_anti (p1.trans p2.symm) hp (List.pairwise_mergeSort (fun a b c => ordL_trans a b c) (fun a b => ordL_total a b) _)
section
variable {g : Glo} {W : WX} {X : Cx} {σ : L2.St} {ι ι1 ι' : List Addr} {H H1 H' : Hp} {s s' : Sto} {fa : Env → Sto → R T} {ρ : Env}
theorem ints_rds : ∀ {xs : List Fy.D} {vs : List V} {is : List Int}, RDs g ι H xs vs → intsD xs = some is → xs = is.map .int ∧ vs = is.map V.int
  | _, _, _, .nil, e => by cases e; exact ⟨rfl, rfl⟩
  | x :: xs, v :: vs, is, .cons r t, e => by
    cases x with
    | int i =>
      simp only [intsD, Option.map_eq_some_iff] at e
      obtain ⟨js, e1, rfl⟩ := e
      obtain ⟨h1, h2⟩ := ints_rds t e1
      cases r.int_
      exact ⟨by rw [h1]; rfl, by rw [h2]; rfl⟩
    | _ => simp [intsD] at e
/-- the rows, each with its place -/
theorem rows_at : ∀ {xs : List Fy.D} {vs : List V} {rows : List (List Int)}, RDs g ι H xs vs → rowsI xs = some rows → ∃ ks : List (Addr × List Int), vs = ks.map (fun p => V.ref p.1) ∧ rows = ks.map (·.2) ∧ ∀ p ∈ ks, SqT g.K H p.1 (p.2.map V.int)
  | _, _, _, .nil, e => by cases e; exact ⟨[], rfl, rfl, fun _ h => by cases h⟩
  | x :: xs, v :: vs, rows, .cons r t, e => by
    cases x with
    | tup ys =>
      simp only [rowsI, Option.bind_eq_some_iff, Option.map_eq_some_iff] at e
      obtain ⟨is, e1, js, e2, rfl⟩ := e
      obtain ⟨ks, h1, h2, h3⟩ := rows_at t e2
      obtain ⟨p, ws, rfl, hp, dp⟩ := RT.tup_ (.v r)
      obtain ⟨h4, h5⟩ := ints_rds dp e1
      refine ⟨(p, is) :: ks, by rw [h1]; rfl, by rw [h2]; rfl, fun q hq => ?_⟩
      rcases List.mem_cons.mp hq with rfl | hq
      · rw [h5] at hp; exact hp
      · exact h3 q hq
    | _ => simp [rowsI] at e
theorem rows_rds : ∀ (L : List (Addr × List Int)), (∀ p ∈ L, SqT g.K H p.1 (p.2.map V.int)) → RDs g ι H ((L.map (·.2)).map fun r => .tup (r.map .int)) (L.map fun p => V.ref p.1)
  | [], _ => .nil
  | p :: L, h => by
    refine .cons (.tup (h p (List.mem_cons_self ..)) ?_) (rows_rds L fun q hq => h q (List.mem_cons_of_mem _ hq))
    have : ∀ ns : List Int, RDs g ι H (ns.map .int) (ns.map V.int) := fun ns => by
      induction ns with
      | nil => exact .nil
      | cons n ns ih => exact .cons (.int n) ih
    exact this p.2
theorem SqT.fresh {K : PySem.W.Frag} {a p : Addr} {o : HO} {vs : List V} (h : SqT K H p vs) (n : H a = none) : SqT K (L2.upd H a o) p vs := by
  rcases h with (h | ⟨z, h⟩) | h
  · exact .inl (.inl (by rw [upd_ne (ne_of_none h n)]; exact h))
  · exact .inl (.inr ⟨z, by rw [upd_ne (ne_of_none h n)]; exact h⟩)
  · exact .inr h
theorem bd_of {r : List Int} {d : Nat} (h : rowOk d r = true) : r.length = d ∧ TS.Bd 1000000000 r := by
  unfold rowOk at h
  simp only [Bool.and_eq_true, decide_eq_true_eq, List.all_eq_true] at h
  exact ⟨h.1, fun m hm => h.2 m hm⟩
theorem pe_sset_ {e : Expr} {p p2 q pos : Pos} (hK : X.K = g.K) (hc : X.calm = true) (hu : X.A.units + 65 < cLine) (hg : Gl X "sorted") (hm : X.mg "sorted" = none) (hg2 : Gl X "set") (hm2 : X.mg "set" = none) (ha : PE X e (tE g W fa)) (hs : notStar e = true) :
    PE X (.Call (.Name "sorted" p) [.Call (.Name "set" p2) [e] [] q] [] pos) (tE g W fun ρ s => (fa ρ s).bind fun x s => ofO (((lstOf x s).bind ssetD).map .l) s) := by
  have s1 := star_of hs [] X.env
  have inner := pe_callTy (x := "set") (p := p2) (pos := q) (cr_setOfT (X := X) hc (by omega)) hg2 hm2 (by decide +kernel) (pa_cons ha pa_nil s1) (by decide +kernel) (by decide +kernel) s1 rfl
  refine PE.imp (pe_callB (x := "sorted") (p := p) (pos := pos) (cr_sortedT (X := X) hc) hg hm (by decide +kernel) (pa_cons inner pa_nil rfl) (by decide +kernel) (by decide +kernel) rfl rfl) fun σ H Q ⟨ι, ρ, s, re, rs, w⟩ => ?_
  refine ⟨ι, ρ, s, re, rs, Wp.step (RA := rlT g) w fun x s1 ι1 H1 v x1 rs1 r1 w1 => ?_⟩
  obtain ⟨t, et, qq⟩ := w1.opt
  simp only [Option.map_eq_some_iff, Option.bind_eq_some_iff] at et
  obtain ⟨out, ⟨xs, e1, e2⟩, rfl⟩ := et
  unfold ssetD at e2
  simp only [Option.bind_eq_some_iff] at e2
  obtain ⟨rows, e3, e4⟩ := e2
  split at e4
  · rename_i hc4
    obtain ⟨h64, hok, hone⟩ := hc4
    cases e4
    obtain ⟨l, vs, rfl, hl, dl⟩ := lst_ok rs1 r1.1 e1
    obtain ⟨ks, h1, h2, h3⟩ := rows_at dl e3
    subst h1
    refine ⟨l, ks, rfl, by rw [hK]; exact hl, fun p hp => by rw [hK]; exact h3 p hp, by rw [h2, List.length_map] at h64; exact h64, fun a L na hsub hall => ?_⟩
    have hb : ∀ p ∈ L, p.2.length = (rows.headD [0]).length ∧ TS.Bd 1000000000 p.2 := fun p hp => by
      have m : p.2 ∈ rows := by rw [h2]; exact List.mem_map_of_mem (hsub p hp)
      exact bd_of (List.all_eq_true.mp hok p.2 m)
    refine ⟨a, L, (rows.headD [0]).length, 1000000000, rfl, upd_same, fun p hp => by rw [hK]; exact SqT.fresh (h3 p (hsub p hp)) na, hone, hb, fun L' z pm nd hfew pw nz => ?_⟩
    have xa := Ext.upd (ι := ι1) (o := SetTO X.prog X.w a L) na
    have rsa := rs1.upd (o := SetTO X.prog X.w a L) na
    have sub' : ∀ p ∈ L', p ∈ ks := fun p hp => hsub p (pm.mem_iff.mp hp)
    have sq : ∀ p ∈ L', SqT g.K (L2.upd H1 a (SetTO X.prog X.w a L)) p.1 (p.2.map V.int) := fun p hp => SqT.fresh (h3 p (sub' p hp)) na
    have mem : ∀ r, r ∈ L'.map (·.2) ↔ r ∈ rows := fun r => by
      constructor
      · intro hr
        obtain ⟨p, hp, rfl⟩ := List.mem_map.mp hr
        rw [h2]
        exact List.mem_map_of_mem (sub' p hp)
      · intro hr
        rw [h2] at hr
        obtain ⟨p, hp, rfl⟩ := List.mem_map.mp hr
        obtain ⟨q, hq, eq⟩ := List.mem_map.mp (hall p hp)
        rw [← eq]
        exact List.mem_map_of_mem (pm.mem_iff.mpr hq)
    have ord : (L'.map (·.2)).Pairwise (fun a b => ordL 1 a b = true) := by
      rw [List.pairwise_map]
      refine List.Pairwise.imp_of_mem (fun {p q} hp hq h => ?_) pw
      obtain ⟨l1, b1⟩ := hb p (pm.mem_iff.mp hp)
      obtain ⟨l2, b2⟩ := hb q (pm.mem_iff.mp hq)
      exact code_ord _ _ (l1.trans l2.symm) b1 b2 h
    rw [← srt_is nd mem ord] at qq
    exact qq ι1 _ _ (xa.trans (Ext.upd nz)) (rsa.upd nz) ((rlT g).sh xa (Ext.upd nz) (newL rsa nz (rows_rds L' sq)))
  · cases e4
end
end Fy
end
section
set_option Elab.async false
set_option linter.all false
set_option maxRecDepth 100000
set_option maxHeartbeats 4000000
/-! FyB: all expressions together. -/
namespace Fy
open PySem PySem.Spec PyProof.Rows L2
section
variable {g : Glo} {tb : Tab} {wf k : Nat}
theorem evEs_nil (cf : CallF) : evEs cf .nil = aNil := by funext ρ s; rw [evEs.eq_def]; rfl
theorem evEs_cons (cf : CallF) (e : E) (es : Es) : evEs cf (.cons e es) = aCons (evE cf e) (evEs cf es) := by funext ρ s; rw [evEs.eq_def]; rfl
theorem evTs_nil (cf : CallF) : evTs cf .nil = bNil := by funext ρ s; rw [evTs.eq_def]; rfl
theorem evTs_cons (cf : CallF) (e : E) (es : Es) : evTs cf (.cons e es) = bCons (evE cf e) (evTs cf es) := by funext ρ s; rw [evTs.eq_def]; rfl
theorem args_len {tb : Tab} {sc : Scope} {fb : Str → Bool} {N : List Str} {cf : CallF} : ∀ {es : Es} {xs : List Expr}, ckEs tb sc fb N es xs = true → ∀ ρ s ds s', evEs cf es ρ s = .ok ds s' → ds.length = xs.length
  | .nil, [], _, ρ, s, ds, s', h => by
    rw [evEs_nil] at h
    unfold aNil at h
    simp at h
    rw [h.1]; rfl
  | .cons e es, x :: xs, hc, ρ, s, ds, s', h => by
    simp only [ckEs, Bool.and_eq_true] at hc
    rw [evEs_cons] at h
    unfold aCons at h
    cases h1 : evE cf e ρ s with
    | bad => rw [h1] at h; simp at h
    | ex _ _ => rw [h1] at h; simp at h
    | ok t s1 =>
      rw [h1] at h
      simp only [R.bind_ok, keepR] at h
      cases h2 : evEs cf es ρ (t.keep s1).2 with
      | bad => rw [h2] at h; simp at h
      | ex _ _ => rw [h2] at h; simp at h
      | ok ds' s2 =>
        rw [h2] at h
        simp at h
        rw [← h.1, List.length_cons, List.length_cons, args_len hc.2 _ _ _ _ h2]
  | .nil, _ :: _, h, _, _, _, _, _ => by simp [ckEs] at h
  | .cons _ _, [], h, _, _, _, _, _ => by simp [ckEs] at h
theorem scope_blk {X : Cx} {s : Shared} {H : Hp} {scope : Scope} {C : Addr} {cl : List (Str × Addr)} {fp : List Addr} : (X.blk s H scope (compEnvC scope cl C X.env) fp).env.scope = relS scope X.env.scope := rfl
theorem fn_blk {X : Cx} {s : Shared} {H : Hp} {scope : Scope} {C : Addr} {cl : List (Str × Addr)} {fp : List Addr} : (X.blk s H scope (compEnvC scope cl C X.env) fp).fn = fbOf scope := rfl
/-- both readings of an expression -/
def OkE (g : Glo) (W : WX) (X : Cx) (x : Expr) (f : Env → Sto → R T) : Prop := PE X x (tE g W f) ∧ PT X x (tT g W (thr f))
theorem OkE.plain {W : WX} {X : Cx} {x : Expr} {f : Env → Sto → R T} (hK : X.K = g.K) (h : PE X x (tE g W f)) (hp : ∀ whole, PySem.isTrue x X.env whole = (do let v ← whole; standAt x.pos; holding [v] (truthy v))) : OkE g W X x f := ⟨h, pt_of hK h hp⟩
theorem const_ok {W : WX} {X : Cx} {x : Expr} {d : D} {v : V} (h : PE X x (tC v)) (r : ∀ ι H, RD g ι H d v) : PE X x (tE g W fun _ s => .ok (.v d) s) :=
  PE.imp h fun σ H Q ⟨ι, ρ, s, re, rs, w⟩ => w ι H v Ext.refl rs (rlT.v (r ι H))
mutual
theorem okE : ∀ (tb : Tab) (e : E) (x : Expr) (W : WX) (X : Cx), CtxA g tb wf k W X → ckE tb X.env.scope X.fn X.N e x = true → OkE g W X x (evE (run tb wf k) e)
  | tb, .var i, x, W, X, c, h => by
    cases x with
    | Name n p =>
      simp only [ckE, Bool.and_eq_true, decide_eq_true_eq] at h
      obtain ⟨⟨h1, h2⟩, h3⟩ := h
      unfold okNm at h3
      simp only [Bool.and_eq_true, Bool.not_eq_true'] at h3
      refine OkE.plain c.hK ?_ fun _ => rfl
      refine PE.imp (pe_var h1 (visB_ok h2) h3.1 h3.2) fun σ H Q ⟨ι, ρ, s, re, rs, w⟩ => ?_
      simp only [evE] at w
      cases hi : ρ[i]? with
      | none => rw [hi] at w; exact w.elim
      | some o =>
        cases o with
        | none => rw [hi] at w; exact w.elim
        | some d =>
          rw [hi] at w
          obtain ⟨v, e, r⟩ := re.at_ i d hi
          exact ⟨v, e, w ι H v Ext.refl rs (rlT.v r)⟩
    | _ => simp [ckE] at h
  | tb, .int n, x, W, X, c, h => by
    cases x with
    | Constant k j p =>
      cases k with
      | int m =>
        simp only [ckE, decide_eq_true_eq] at h
        subst h
        exact OkE.plain c.hK (const_ok pe_int fun _ _ => .int _) fun _ => rfl
      | _ => simp [ckE] at h
    | _ => simp [ckE] at h
  | tb, .bl n, x, W, X, c, h => by
    cases x with
    | Constant k j p =>
      cases k with
      | bool m =>
        have h' : n = m := by simpa [ckE] using h
        subst h'
        exact OkE.plain c.hK (const_ok pe_bl fun _ _ => .bl _) fun _ => rfl
      | _ => simp [ckE] at h
    | _ => simp [ckE] at h
  | tb, .non, x, W, X, c, h => by
    cases x with
    | Constant k j p =>
      cases k with
      | none => exact OkE.plain c.hK (const_ok pe_non fun _ _ => .non) fun _ => rfl
      | _ => simp [ckE] at h
    | _ => simp [ckE] at h
  | tb, .str n, x, W, X, c, h => by
    cases x with
    | Constant k j p =>
      cases k with
      | str m =>
        simp only [ckE, decide_eq_true_eq] at h
        subst h
        exact OkE.plain c.hK (const_ok pe_str fun _ _ => .str _) fun _ => rfl
      | _ => simp [ckE] at h
    | _ => simp [ckE] at h
  | tb, .tyn n t, x, W, X, c, h => by
    cases x with
    | Name m p =>
      simp only [ckE, Bool.and_eq_true, decide_eq_true_eq] at h
      obtain ⟨⟨rfl, h2⟩, h3⟩ := h
      have hn := tyNot _ h3
      exact OkE.plain c.hK (const_ok (pe_bltn (glB_ok h2) (c.mgT _ h3) (tyBoot _ h3) (show RelV (.ty t) (.type t) from rfl) hn.1 hn.2) fun _ _ => .ty _) fun _ => rfl
    | _ => simp [ckE] at h
  | tb, .con n d, x, W, X, c, h => by
    cases x with
    | Name m p =>
      simp only [ckE, Bool.and_eq_true, decide_eq_true_eq] at h
      obtain ⟨⟨⟨rfl, h2⟩, h3⟩, h4⟩ := h
      unfold okNm at h3
      simp only [Bool.and_eq_true, Bool.not_eq_true'] at h3
      obtain ⟨u, v, hm, rv, rd⟩ := c.con _ _ h4
      exact OkE.plain c.hK (const_ok (pe_glob (glB_ok h2) hm rv h3.1) rd) fun _ => rfl
    | _ => simp [ckE] at h
  | tb, .bin op a b, x, W, X, c, h => by
    cases x with
    | BinOp l o r p =>
      simp only [ckE, Bool.and_eq_true] at h
      obtain ⟨⟨h1, h2⟩, h3⟩ := h
      rw [opB_ok h1]
      exact OkE.plain c.hK (pe_bin_ c.hK (okE _ a l W X c h2).1 (okE _ b r W X c h3).1) fun _ => rfl
    | _ => simp [ckE] at h
  | tb, .neg a, x, W, X, c, h => by
    cases x with
    | UnaryOp o l p =>
      cases o with
      | USub =>
        have h' : ckE tb X.env.scope X.fn X.N a l = true := by simpa [ckE] using h
        exact OkE.plain c.hK (pe_neg_ (okE _ a l W X c h').1) fun _ => rfl
      | _ => simp [ckE] at h
    | _ => simp [ckE] at h
  | tb, .cmp op a b, x, W, X, c, h => by
    match x, h with
    | .Compare l [o] [r] p, h =>
      simp only [ckE, Bool.and_eq_true] at h
      obtain ⟨⟨h1, h2⟩, h3⟩ := h
      rw [cmpB_ok h1]
      have hu : X.A.units + 65 < cLine := by have := c.room.un; omega
      have hm := nomarks (ck_star h3) (cmpOf op)
      exact ⟨pe_cmp_ c.hK hu (okE _ a l W X c h2).1 (okE _ b r W X c h3).1 hm, pt_cmp_ c.hK hu (okE _ a l W X c h2).1 (okE _ b r W X c h3).1 hm⟩
  | tb, .chain op op' a b d, x, W, X, c, h => by
    match x, h with
    | .Compare l [o, o'] [r, q] p, h =>
      simp only [ckE, Bool.and_eq_true] at h
      obtain ⟨⟨⟨⟨h1, h2⟩, h3⟩, h4⟩, h5⟩ := h
      rw [cmpB_ok h1, cmpB_ok h2]
      have hu : X.A.units + 65 < cLine := by have := c.room.un; omega
      have hm : lastMarks [cmpOf op, cmpOf op'] [r, q] = false := nomarks (ck_star h5) (cmpOf op')
      exact ⟨pe_chain_ c.hK hu (okE _ a l W X c h3).1 (okE _ b r W X c h4).1 (okE _ d q W X c h5).1 hm, pt_chain_ c.hK hu (okE _ a l W X c h3).1 (okE _ b r W X c h4).1 (okE _ d q W X c h5).1 hm⟩
  | tb, .and2 a b, x, W, X, c, h => by
    match x, h with
    | .BoolOp .And (l :: r :: []) p, h =>
      simp only [ckE, Bool.and_eq_true] at h
      obtain ⟨pa, ta⟩ := okE _ a l W X c h.1
      obtain ⟨pb, tb'⟩ := okE _ b r W X c h.2
      exact ⟨pe_and_ c.hK pa (pe_one pb), pw_and_ ta (pw_and1 tb')⟩
    | .BoolOp .And (l :: r :: q :: qs) p, h =>
      simp only [ckE, Bool.and_eq_true] at h
      obtain ⟨pa, ta⟩ := okE _ a l W X c h.1
      obtain ⟨pb, tb'⟩ := okE _ b (.BoolOp .And (r :: q :: qs) p) W X c h.2
      exact ⟨pe_and_ c.hK pa pb, pw_and_ ta (pw_of tb')⟩
  | tb, .or2 a b, x, W, X, c, h => by
    match x, h with
    | .BoolOp .Or (l :: r :: []) p, h =>
      simp only [ckE, Bool.and_eq_true] at h
      obtain ⟨pa, ta⟩ := okE _ a l W X c h.1
      obtain ⟨pb, tb'⟩ := okE _ b r W X c h.2
      exact ⟨pe_or_ c.hK pa (pe_one pb), pw_or_ ta (pw_or1 tb')⟩
    | .BoolOp .Or (l :: r :: q :: qs) p, h =>
      simp only [ckE, Bool.and_eq_true] at h
      obtain ⟨pa, ta⟩ := okE _ a l W X c h.1
      obtain ⟨pb, tb'⟩ := okE _ b (.BoolOp .Or (r :: q :: qs) p) W X c h.2
      exact ⟨pe_or_ c.hK pa pb, pw_or_ ta (pw_of tb')⟩
  | tb, .not1 a, x, W, X, c, h => by
    match x, h with
    | .UnaryOp .Not l p, h =>
      have h' : ckE tb X.env.scope X.fn X.N a l = true := by simpa [ckE] using h
      obtain ⟨pa, ta⟩ := okE _ a l W X c h'
      exact ⟨pe_not_ c.hK pa, pt_not_ ta⟩
  | tb, .ite d a b, x, W, X, c, h => by
    match x, h with
    | .IfExp l r q p, h =>
      simp only [ckE, Bool.and_eq_true] at h
      obtain ⟨⟨h1, h2⟩, h3⟩ := h
      obtain ⟨pc, tc⟩ := okE _ d l W X c h1
      obtain ⟨pa, ta⟩ := okE _ a r W X c h2
      obtain ⟨pb, tb'⟩ := okE _ b q W X c h3
      exact ⟨pe_ite_ tc pa pb, pt_ite_ tc ta tb'⟩
  | tb, .tup es, x, W, X, c, h => by
    match x, h with
    | .Tuple xs n p, h =>
      have h' : ckEs tb X.env.scope X.fn X.N es xs = true := by simpa [ckE] using h
      exact OkE.plain c.hK (pe_tup_ (okEs _ es xs W X c h').1) fun _ => rfl
  | tb, .lst es, x, W, X, c, h => by
    match x, h with
    | .List xs p, h =>
      have h' : ckEs tb X.env.scope X.fn X.N es xs = true := by simpa [ckE] using h
      exact OkE.plain c.hK (pe_lst_ (okEs _ es xs W X c h').1) fun _ => rfl
  | tb, .idx a i, x, W, X, c, h => by
    match x, h with
    | .Subscript l r p, h =>
      have h' : ckE tb X.env.scope X.fn X.N a l = true ∧ ckE tb X.env.scope X.fn X.N i r = true := by
        unfold ckE at h
        simpa using h
      exact OkE.plain c.hK (pe_idx_ c.hK (by have := c.room.un; omega) (okE _ a l W X c h'.1).1 (okE _ i r W X c h'.2).1 (plain_of (ck_star h'.2))) fun _ => rfl
  | tb, .slc a lo hi, x, W, X, c, h => by
    match x, h with
    | .Subscript l (.Slice u v none q) p, h =>
      simp only [ckE, Bool.and_eq_true] at h
      obtain ⟨⟨h1, h2⟩, h3⟩ := h
      exact OkE.plain c.hK (pe_slc_ c.hK (okE _ a l W X c h1).1 (okEo _ lo u W X c h2) (okEo _ hi v W X c h3)) fun _ => rfl
  | tb, .call f es, x, W, X, c, h => by
    match x, h with
    | .Call (.Name n q) (y :: ys) [] p, h =>
      simp only [ckE, Bool.and_eq_true, decide_eq_true_eq] at h
      obtain ⟨⟨⟨⟨rfl, h2⟩, h3⟩, h4⟩, h5⟩ := h
      have hs : starEach (y :: ys) X.env = (false, eval y X.env) :: starEach ys X.env := by
        cases es with
        | nil => simp [ckEs] at h5
        | cons e es =>
          simp only [ckEs, Bool.and_eq_true] at h5
          exact star_of (ck_star h5.1) _ _
      have hpl : (backTo p (starEach ys X.env)).any (·.1) = false := by
        have z := stars h5 p X.env
        rw [hs] at z
        exact z
      exact OkE.plain c.hK (pe_call_ c (glB_ok h2) h3 h4 (okEs _ es (y :: ys) W X c h5).1 (args_len h5) hs hpl) fun _ => rfl
  | tb, .bi f es, x, W, X, c, h => by
    match x, h with
    | .Call (.Name n q) (y :: ys) [] p, h =>
      simp only [ckE, Bool.and_eq_true, decide_eq_true_eq] at h
      obtain ⟨⟨⟨rfl, h2⟩, h3⟩, h5⟩ := h
      have hs : starEach (y :: ys) X.env = (false, eval y X.env) :: starEach ys X.env := by
        cases es with
        | nil => simp [ckEs] at h5
        | cons e es =>
          simp only [ckEs, Bool.and_eq_true] at h5
          exact star_of (ck_star h5.1) _ _
      have hpl : (backTo p (starEach ys X.env)).any (·.1) = false := by
        have z := stars h5 p X.env
        rw [hs] at z
        exact z
      exact OkE.plain c.hK (pe_bi_ c (glB_ok h2) (okEs _ es (y :: ys) W X c h5).2 hs hpl) fun _ => rfl
  | tb, .heard f cn e, x, W, X, c, h => by
    unfold ckE at h
    split at h
    · rename_i r hv
      have e1 := vLamC_some hv
      subst e1
      simp only [Bool.and_eq_true, decide_eq_true_eq] at h
      obtain ⟨⟨⟨⟨⟨⟨rfl, h2⟩, h3⟩, h4⟩, h5⟩, h6⟩, h7⟩ := h
      have L := LamX.lamS_by h6
      refine OkE.plain c.hK ?_ fun _ => rfl
      refine pe_heard_ (k := k) (fe := evE (run tb wf k) e) c.hK (c.deep h3) (c.hds _ _ h4) (glB_ok h2) h5 L fun A outer s H E f c' hr => ?_
      rw [← run_off]
      exact (okE tb.off e _ _ _ (c.lamb L.kind hr) h7).1
    · cases h
  | tb, .heard2 f cn e, x, W, X, c, h => by
    unfold ckE at h
    split at h
    · rename_i r hv
      have e1 := vLamC_some hv
      subst e1
      simp only [Bool.and_eq_true, decide_eq_true_eq] at h
      obtain ⟨⟨⟨⟨⟨⟨rfl, h2⟩, h3⟩, h4⟩, h5⟩, h6⟩, h7⟩ := h
      have L := LamX.lamS_by h6
      refine OkE.plain c.hK ?_ fun _ => rfl
      refine pe_heard2_ (k := k) (fe := evE (run tb wf k) e) c.hK (c.deep h3) (c.hds2 _ _ h4) (glB_ok h2) h5 L fun A outer s H E f c' hr => ?_
      rw [← run_off]
      exact (okE tb.off e _ _ _ (c.lamb L.kind hr) h7).1
    · cases h
  | tb, .dnew, x, W, X, c, h => by
    unfold ckE at h
    split at h
    all_goals first
      | (rename_i e1 e2; cases e1; exact OkE.plain c.hK pe_dnew_ fun _ => rfl)
      | exact OkE.plain c.hK pe_dnew_ fun _ => rfl
      | (rename_i e1; cases e1; done)
      | cases h
  | tb, .dnewT, x, W, X, c, h => by
    unfold ckE at h
    split at h
    all_goals first
      | (rename_i e1 e2; cases e1; exact OkE.plain c.hK pe_dnewT_ fun _ => rfl)
      | exact OkE.plain c.hK pe_dnewT_ fun _ => rfl
      | (rename_i e1; cases e1; done)
      | cases h
  | tb, .dgetT a k e, x, W, X, c, h => by
    unfold ckE at h
    split at h
    · rename_i z n ap y w cp hv
      split at h
      · rename_i r hr
        have e1 := vMeth_some hv
        have e2 := vTupP_some hr
        simp only at e1
        subst e1 e2
        simp only [Bool.and_eq_true, decide_eq_true_eq, beq_iff_eq] at h
        obtain ⟨⟨⟨⟨⟨rfl, h2⟩, h3⟩, h4⟩, h5⟩, h6⟩ := h
        have hl : (ap.endLine == cp.line) = true := by simpa using h3
        have s2 := star_of (ck_star h6) [] X.env
        have tr : backTo cp (starEach [.Tuple r.1 r.2.1 r.2.2, w] X.env) = [(false, eval (.Tuple r.1 r.2.1 r.2.2) X.env), (false, eval w X.env)] := by
          rw [star_of (x := .Tuple r.1 r.2.1 r.2.2) rfl, s2]; rfl
        refine OkE.plain c.hK ?_ fun _ => rfl
        exact pe_dgetT_ (by have := c.room.un; omega) (okE _ a z W X c h4).1 (okEs _ k r.1 W X c h5).1 (okE _ e w W X c h6).1 ⟨base_of h2 _ _, by rw [tr]; rfl, hl, tr⟩
      · cases h
    · cases h
  | tb, .fz e, x, W, X, c, h => by
    unfold ckE at h
    obtain ⟨p, q⟩ := okE _ e x W X c h
    refine ⟨pe_fz_ p, ?_⟩
    have z : thr (evE (run tb wf k) (.fz e)) = thr (evE (run tb wf k) e) := thr_fz (fa := evE (run tb wf k) e)
    rw [z]
    exact q
  | tb, .attr e f, x, W, X, c, h => by
    match x, h with
    | .Attribute z n p, h =>
      simp only [ckE, Bool.and_eq_true, decide_eq_true_eq] at h
      obtain ⟨⟨rfl, h2⟩, h3⟩ := h
      exact OkE.plain c.hK (pe_attr_ c.hK (okE _ e z W X c h3).1 h2) fun _ => rfl
  | tb, .isi e ts, x, W, X, c, h => by
    match x, h with
    | .Call (.Name n q) [z, .Tuple zs m kp] [] p, h =>
      simp only [ckE, Bool.and_eq_true, decide_eq_true_eq] at h
      obtain ⟨⟨⟨⟨rfl, h2⟩, h3⟩, h4⟩, h5⟩ := h
      have tys : ∀ (ts : List (Str × String)) (zs : List Expr), ckTys X.env.scope ts zs = true → PA X zs (tTys ts) ∧ ∀ c ∈ ts, c.2 ∈ kinds := by
        intro ts
        induction ts with
        | nil =>
          intro zs hz
          cases zs with
          | nil => exact ⟨pa_nil, fun _ hc => by cases hc⟩
          | cons _ _ => simp [ckTys] at hz
        | cons t ts ih =>
          intro zs hz
          cases zs with
          | nil => simp [ckTys] at hz
          | cons w zs =>
            cases w with
            | Name nm np =>
              simp only [ckTys, Bool.and_eq_true, decide_eq_true_eq] at hz
              obtain ⟨⟨⟨⟨e1, g1⟩, g2⟩, g3⟩, g4⟩ := hz
              obtain ⟨i1, i2⟩ := ih zs g4
              have hn := tyNot _ g2
              refine ⟨pa_cons (pe_bltn (glB_ok g1) (c.mgT _ g2) (tyBoot _ g2) (show RelV (.ty t.2) (.type t.2) from rfl) hn.1 hn.2) i1 rfl, fun x hx => ?_⟩
              rcases List.mem_cons.mp hx with rfl | hx
              · exact g3
              · exact i2 x hx
            | _ => simp [ckTys] at hz
      obtain ⟨p1, p2⟩ := tys ts zs h3
      exact OkE.plain c.hK (pe_isi_ c.hK (glB_ok h2) (c.mgB .isinst) (okE _ e z W X c h5).1 p1 p2 h4 (ck_star h5)) fun _ => rfl
  | tb, .sset e, x, W, X, c, h => by
    match x, h with
    | .Call (.Name n p1) [.Call (.Name m p2) [z] [] p3] [] p4, h =>
      simp only [ckE, Bool.and_eq_true, decide_eq_true_eq] at h
      obtain ⟨⟨⟨⟨rfl, rfl⟩, h3⟩, h4⟩, h5⟩ := h
      exact OkE.plain c.hK (pe_sset_ c.hK c.calm (by have := c.room.un; omega) (glB_ok h3) (c.mgB .sorted) (glB_ok h4) c.mgS (okE _ e z W X c h5).1 (ck_star h5)) fun _ => rfl
  | tb, .new cn f es, x, W, X, c, h => by
    match x, h with
    | .Call (.Name n q) (y :: ys) [] p, h =>
      simp only [ckE, Bool.and_eq_true, decide_eq_true_eq] at h
      obtain ⟨⟨⟨⟨rfl, h2⟩, h3⟩, h4⟩, h5⟩ := h
      have hs : starEach (y :: ys) X.env = (false, eval y X.env) :: starEach ys X.env := by
        cases es with
        | nil => simp [ckEs] at h5
        | cons e es =>
          simp only [ckEs, Bool.and_eq_true] at h5
          exact star_of (ck_star h5.1) _ _
      have hpl : (backTo p (starEach ys X.env)).any (·.1) = false := by
        have z := stars h5 p X.env
        rw [hs] at z
        exact z
      exact OkE.plain c.hK (pe_new_ c (glB_ok h2) h3 h4 (okEs _ es (y :: ys) W X c h5).1 (args_len h5) hs hpl) fun _ => rfl
  | tb, .dic1 k v, x, W, X, c, h => by
    match x, h with
    | .Dict [some x] [y] p, h =>
      simp only [ckE, Bool.and_eq_true] at h
      exact OkE.plain c.hK (pe_dic1_ (okE _ k x W X c h.1).1 (okE _ v y W X c h.2).1) fun _ => rfl
  | tb, .dget2 a k e, x, W, X, c, h => by
    unfold ckE at h
    split at h
    · rename_i z n ap y w cp hv
      have e1 := vMeth_some hv
      simp only at e1
      subst e1
      simp only [Bool.and_eq_true, decide_eq_true_eq, beq_iff_eq] at h
      obtain ⟨⟨⟨⟨⟨rfl, h2⟩, h3⟩, h4⟩, h5⟩, h6⟩ := h
      have hl : (ap.endLine == cp.line) = true := by simpa using h3
      have s1 := star_of (ck_star h5) [w] X.env
      have s2 := star_of (ck_star h6) [] X.env
      have tr : backTo cp (starEach [y, w] X.env) = [(false, eval y X.env), (false, eval w X.env)] := by rw [s1, s2]; rfl
      refine OkE.plain c.hK ?_ fun _ => rfl
      exact pe_dget2_ (by have := c.room.un; omega) (okE _ a z W X c h4).1 (okE _ k y W X c h5).1 (okE _ e w W X c h6).1 ⟨base_of h2 _ _, by rw [tr]; rfl, hl, tr⟩
    · cases h
  | tb, .app o es, x, W, X, c, h => by
    unfold ckE at h
    split at h
    · rename_i z n ap ys cp hv
      have e1 := vMeth_some hv
      simp only at e1
      subst e1
      simp only [Bool.and_eq_true, decide_eq_true_eq, beq_iff_eq] at h
      obtain ⟨⟨⟨⟨⟨rfl, h2⟩, h3⟩, h4⟩, h5⟩, h6⟩ := h
      obtain ⟨y, rfl⟩ : ∃ y, ys = [y] := by
        match ys, h4 with
        | [y], _ => exact ⟨y, rfl⟩
      have hy : notStar y = true := by
        cases es with
        | nil => simp [ckEs] at h6
        | cons e es =>
          simp only [ckEs, Bool.and_eq_true] at h6
          exact ck_star h6.1
      exact OkE.plain c.hK (pe_app_ c.hK (okE _ o z W X c h5).1 (okEs _ es [y] W X c h6).1 h2 hy (by simpa using h3)) fun _ => rfl
    · cases h
  | tb, .me m o es, x, W, X, c, h => by
    unfold ckE at h
    split at h
    · rename_i z n ap ys cp hv
      have e1 := vMeth_some hv
      simp only at e1
      subst e1
      simp only [Bool.and_eq_true, decide_eq_true_eq, beq_iff_eq] at h
      obtain ⟨⟨⟨⟨⟨rfl, h2⟩, h3⟩, h4⟩, h5⟩, h6⟩ := h
      have hl : (ap.endLine == cp.line) = true := by simpa using h3
      have hu : X.A.units + 65 < cLine := by have := c.room.un; omega
      have ho := (okE _ o z W X c h5).1
      have hes := (okEs _ es ys W X c h6).2
      cases m with
      | pop =>
        have e0 : ys = [] := by simpa [meA] using h4
        subst e0
        cases es with
        | nil =>
          refine OkE.plain c.hK ?_ fun _ => rfl
          have := pe_pop_ (apos := ap) (cpos := cp) c.hK ho h2 hl
          exact this
        | cons e es => simp [ckEs] at h6
      | ext =>
        obtain ⟨y, rfl⟩ : ∃ y, ys = [y] := by
          match ys, h4 with
          | [y], _ => exact ⟨y, rfl⟩
        have hy : notStar y = true := by
          cases es with
          | nil => simp [ckEs] at h6
          | cons e es =>
            simp only [ckEs, Bool.and_eq_true] at h6
            exact ck_star h6.1
        exact OkE.plain c.hK (pe_ext_ c.hK ho hes h2 hy hl) fun _ => rfl
      | idx =>
        obtain ⟨y, rfl⟩ : ∃ y, ys = [y] := by
          match ys, h4 with
          | [y], _ => exact ⟨y, rfl⟩
        have hy : notStar y = true := by
          cases es with
          | nil => simp [ckEs] at h6
          | cons e es =>
            simp only [ckEs, Bool.and_eq_true] at h6
            exact ck_star h6.1
        exact OkE.plain c.hK (pe_idx2_ c.hK hu ho hes h2 hy hl) fun _ => rfl
    · cases h
  | tb, .lc own tg it d e, x, W, X, c, h => by
    match x, h with
    | .ListComp elt [⟨t, i, ifs, 0⟩] scope p, h =>
      simp only [ckE, Bool.and_eq_true] at h
      obtain ⟨⟨⟨⟨⟨h1, h2⟩, h3⟩, h4⟩, h5⟩, h6⟩ := h
      have hsl : ∀ i ∈ tg.slots, i ∈ own.map (·.2) := by simpa using h2
      refine OkE.plain c.hK ?_ fun _ => rfl
      refine PE.imp (pe_lc_ c.hK c.calm c.nd (okIt _ it t i W X c h4).1 (blkOk_by h1) hsl (fun s H C cl fp => okT (X := X.blk s H scope (compEnvC scope cl C X.env) fp) c.hK c.calm c.nd tg t h3)
        (fun s H C cl fp => by have z := okC tb.off d ifs noW _ (c.blk s H scope C cl fp (blkOk_by h1).kind) h5; rw [run_off] at z; exact z) (fun s H C cl fp => by have z := (okE tb.off e elt noW _ (c.blk s H scope C cl fp (blkOk_by h1).kind) h6).1; rw [run_off] at z; exact z) (okIt _ it t i W X c h4).2) fun σ H Q q => ?_
      exact lc_ok hsl q
theorem okEs : ∀ (tb : Tab) (es : Es) (xs : List Expr) (W : WX) (X : Cx), CtxA g tb wf k W X → ckEs tb X.env.scope X.fn X.N es xs = true → PA X xs (tA g W (evEs (run tb wf k) es)) ∧ PA X xs (tAT g W (evTs (run tb wf k) es))
  | tb, .nil, [], W, X, c, h => by
    rw [evEs_nil, evTs_nil]
    exact ⟨pa_nil_, pb_nil_⟩
  | tb, .cons e es, x :: xs, W, X, c, h => by
    simp only [ckEs, Bool.and_eq_true] at h
    rw [evEs_cons, evTs_cons]
    obtain ⟨p1, p2⟩ := okEs _ es xs W X c h.2
    have q := (okE _ e x W X c h.1).1
    have hs := star_of (ck_star h.1) xs X.env
    exact ⟨pa_cons_ q p1 hs, pb_cons_ q p2 hs⟩
  | tb, .nil, _ :: _, _, _, _, h => by simp [ckEs] at h
  | tb, .cons _ _, [], _, _, _, h => by simp [ckEs] at h
theorem okEo : ∀ (tb : Tab) (e : Eo) (x : Option Expr) (W : WX) (X : Cx), CtxA g tb wf k W X → ckEo tb X.env.scope X.fn X.N e x = true → PO X x (tO g W (evEo (run tb wf k) e))
  | tb, .none, none, W, X, c, h => po_none_
  | tb, .some e, some x, W, X, c, h => po_some_ (okE _ e x W X c (by simpa [ckEo] using h)).1
  | tb, .none, some _, _, _, _, h => by simp [ckEo] at h
  | tb, .some _, none, _, _, _, h => by simp [ckEo] at h
theorem okC : ∀ (tb : Tab) (e : Eo) (x : List Expr) (W : WX) (X : Cx), CtxA g tb wf k W X → ckC tb X.env.scope X.fn X.N e x = true → PTs X x (tT g W (evC (run tb wf k) e))
  | tb, .none, [], W, X, c, h => by
    refine ⟨fun pins s σ H Q I ⟨ι, ρ, st, re, rs, w⟩ => pts_nil.run pins s σ H Q I ?_⟩
    exact w ι H true Ext.refl rs rfl
  | tb, .some e, [x], W, X, c, h => pts_one (okE _ e x W X c (by simpa [ckC] using h)).2
  | tb, .none, _ :: _, _, _, _, h => by simp [ckC] at h
  | tb, .some _, [], _, _, _, h => by simp [ckC] at h
  | tb, .some _, _ :: _ :: _, _, _, _, h => by simp [ckC] at h
theorem okIt : ∀ (tb : Tab) (it : It) (t x : Expr) (W : WX) (X : Cx), CtxA g tb wf k W X → ckIt tb X.env.scope X.fn X.N it t x = true → PI X t x (tI g W (evIt (run tb wf k) it)) ∧ ∀ v, foldedSetIterable x X.env v = pure v
  | tb, .seq e, t, x, W, X, c, h => by
    have h' : ckE tb X.env.scope X.fn X.N e x = true := by simpa [ckIt] using h
    exact ⟨pi_seq_ c.hK (okE _ e x W X c h').1, noset_of (ck_star h') _⟩
  | tb, .rng es, t, x, W, X, c, h => by
    match x, h with
    | .Call (.Name n q) xs [] p, h =>
      simp only [ckIt, Bool.and_eq_true, decide_eq_true_eq] at h
      obtain ⟨⟨⟨rfl, h2⟩, h3⟩, h4⟩ := h
      refine ⟨?_, fun _ => rfl⟩
      have pa := (okEs _ es xs W X c h3).1
      have al := args_len (cf := run tb wf k) h3
      match xs, h4, h3, pa, al with
      | [y], _, h3, pa, al =>
        have hs : starEach [y] X.env = [(false, eval y X.env)] := by
          cases es with
          | nil => simp [ckEs] at h3
          | cons e es =>
            simp only [ckEs, Bool.and_eq_true] at h3
            exact star_of (ck_star h3.1) _ _
        exact pi_rng1_ (glB_ok h2) c.mgI.1 pa al hs
      | [y, z], _, h3, pa, al =>
        have hs : notStar y = true ∧ notStar z = true := by
          cases es with
          | nil => simp [ckEs] at h3
          | cons e es =>
            cases es with
            | nil => simp [ckEs] at h3
            | cons e' es =>
              simp only [ckEs, Bool.and_eq_true] at h3
              exact ⟨ck_star h3.1, ck_star h3.2.1⟩
        exact pi_rng2_ (glB_ok h2) c.mgI.1 pa al (by rw [star_of hs.1, star_of hs.2]; rfl) (by rw [star_of hs.2]; rfl)
      | [], h4, _, _, _ => simp at h4
      | _ :: _ :: _ :: _, h4, _, _, _ => simp at h4
  | tb, .zip a b, t, x, W, X, c, h => by
    match t, x, h with
    | .Tuple els kk tp, .Call (.Name n q) [y, z] [] p, h =>
      simp only [ckIt, Bool.and_eq_true, decide_eq_true_eq] at h
      obtain ⟨⟨⟨rfl, h2⟩, h3⟩, h4⟩ := h
      exact ⟨pi_zip_ c.hK (glB_ok h2) c.mgI.2.1 (okE _ a y W X c h3).1 (okE _ b z W X c h4).1 (ck_star h3) (ck_star h4), fun _ => rfl⟩
  | tb, .enum a, t, x, W, X, c, h => by
    match t, x, h with
    | .Tuple els kk tp, .Call (.Name n q) [y] [] p, h =>
      simp only [ckIt, Bool.and_eq_true, decide_eq_true_eq] at h
      obtain ⟨⟨rfl, h2⟩, h3⟩ := h
      exact ⟨pi_enum_ c.hK (glB_ok h2) c.mgI.2.2 (okE _ a y W X c h3).1 (ck_star h3), fun _ => rfl⟩
end
end
end Fy
end
section
set_option Elab.async false
set_option linter.all false
set_option maxRecDepth 100000
set_option maxHeartbeats 4000000
/-! FyC: statements. -/
namespace Fy
open PySem PySem.Spec PyProof.Rows L2
/-- a statement ends so -/
def WpS (g : Glo) (W : WX) (D : Ends) (ι : List Addr) (H : Hp) (m : Fl) : Prop :=
  match m with
  | .nx ρ s => ∀ ι' H' σ', Ext ι H ι' H' → RS g ι' s H' → RE g ι' H' ρ σ' → D.nx σ' H'
  | .rt t s => ∀ ι' H' v, Ext ι H ι' H' → RS g ι' s H' → (rlT g).r H ι' H' t v → D.rt v H'
  | .bk ρ s => ∀ ι' H' σ', Ext ι H ι' H' → RS g ι' s H' → RE g ι' H' ρ σ' → D.bk σ' H'
  | .ct ρ s => ∀ ι' H' σ', Ext ι H ι' H' → RS g ι' s H' → RE g ι' H' ρ σ' → D.ct σ' H'
  | .ex ρ x s => ∀ ι' H' σ' c d, Ext ι H ι' H' → RS g ι' s H' → RE g ι' H' ρ σ' → RX g ι' H' x c d → W c d σ' H'
  | .bad => False
def tS (g : Glo) (W : WX) (f : Env → Sto → Fl) : TS := fun D σ H => ∃ ι ρ s, RE g ι H ρ σ ∧ RS g ι s H ∧ WpS g W D ι H (f ρ s)
section
variable {g : Glo} {W : WX} {X : Cx} {D : Ends} {σ : L2.St} {ι ι1 : List Addr} {H H1 : Hp} {s : Sto} {ρ : Env} {e : Expr} {fa : Env → Sto → R T} {pos : Pos}
theorem WpS.shift {m : Fl} (h : WpS g W D ι H m) (x : Ext ι H ι1 H1) : WpS g W D ι1 H1 m := by
  cases m with
  | nx ρ s => exact fun ι' H' σ' x' => h ι' H' σ' (x.trans x')
  | rt t s => exact fun ι' H' v x' rs r => h ι' H' v (x.trans x') rs ((rlT g).sh x x' r)
  | bk ρ s => exact fun ι' H' σ' x' => h ι' H' σ' (x.trans x')
  | ct ρ s => exact fun ι' H' σ' x' => h ι' H' σ' (x.trans x')
  | ex ρ y s => exact fun ι' H' σ' c d x' => h ι' H' σ' c d (x.trans x')
  | bad => exact h
theorem WpS.step {α β : Type} {RA : Rl α β} {m : R α} {k : α → Sto → Fl} {N : β → Hp → Prop} (h : WpS g W D ι H (m.fl ρ k)) (re : RE g ι H ρ σ) (rs : RS g ι s H)
    (hk : ∀ a s1 ι1 H1 b, m = .ok a s1 → Ext ι H ι1 H1 → RS g ι1 s1 H1 → RA.r H ι1 H1 a b → WpS g W D ι H (k a s1) → N b H1) : Wp g W RA σ ι H m N := by
  cases m with
  | ok a s1 => exact fun ι1 H1 b x rs r => hk a s1 ι1 H1 b rfl x rs r h
  | ex e s' => exact fun ι' H' c d x rs' rx => h ι' H' σ c d x rs' (re.ext rs x) rx
  | bad => exact h
/-- .. begun further on -/
theorem WpS.stepAt {α β : Type} {RA : Rl α β} {m : R α} {k : α → Sto → Fl} {N : β → Hp → Prop} {ι0 : List Addr} {H0 : Hp} (h : WpS g W D ι0 H0 (m.fl ρ k)) (x0 : Ext ι0 H0 ι H) (re : RE g ι H ρ σ) (rs : RS g ι s H)
    (hk : ∀ a s1 ι1 H1 b, m = .ok a s1 → Ext ι H ι1 H1 → RS g ι1 s1 H1 → RA.r H ι1 H1 a b → WpS g W D ι0 H0 (k a s1) → N b H1) : Wp g W RA σ ι H m N := by
  cases m with
  | ok a s1 => exact fun ι1 H1 b x rs r => hk a s1 ι1 H1 b rfl x rs r h
  | ex e s' => exact fun ι' H' c d x rs' rx => h ι' H' σ c d (x0.trans x) rs' (re.ext rs x) rx
  | bad => exact h
theorem WpS.keep {DD : Ends} {k : Fy.D → Sto → Fl} {N : V → Hp → Prop} {t : R T} (h : WpS g W DD ι H (t.fl ρ fun x s => (keepR x s).fl ρ k)) (re : RE g ι H ρ σ) (rs : RS g ι s H)
    (hk : ∀ d s1 ι1 H1 v, Ext ι H ι1 H1 → RS g ι1 s1 H1 → RD g ι1 H1 d v → WpS g W DD ι H (k d s1) → N v H1) : Wp g W (rlT g) σ ι H t N :=
  WpS.step (RA := rlT g) h re rs fun t s1 ι1 H1 v _ x1 rs1 r1 w0 => by
    obtain ⟨ι2, rs2, x2, rd⟩ := keep_ok rs1 x1 r1.1 r1.2
    exact hk _ _ ι2 H1 v x2 rs2 rd w0
theorem cond_ok {m1 m2 : T → Sto → Fl} {N : Bool → Hp → Prop}
    (w : WpS g W D ι H ((fa ρ s).fl ρ fun x s => match truth x s with | some true => m1 x s | some false => m2 x s | none => .bad)) (re : RE g ι H ρ σ) (rs : RS g ι s H)
    (h1 : ∀ x s1 ι1 H1, Ext ι H ι1 H1 → RS g ι1 s1 H1 → WpS g W D ι1 H1 (m1 x s1) → N true H1)
    (h2 : ∀ x s1 ι1 H1, Ext ι H ι1 H1 → RS g ι1 s1 H1 → WpS g W D ι1 H1 (m2 x s1) → N false H1) : Wp g W rlB σ ι H (thr fa ρ s) N := by
  unfold thr
  cases h : fa ρ s with
  | ok x s1 =>
    rw [h] at w
    simp only [R.bind_ok, R.fl_ok] at w ⊢
    cases ht : truth x s1 with
    | none => rw [ht] at w; exact w.elim
    | some b =>
      rw [ht] at w
      rintro ι' H' b' x1 rs1 r1
      have r1' : b = b' := r1
      subst r1'
      cases b with
      | true => exact h1 x s1 ι' H' x1 rs1 (WpS.shift w x1)
      | false => exact h2 x s1 ι' H' x1 rs1 (WpS.shift w x1)
  | ex x s1 =>
    rw [h] at w
    exact fun ι' H' c d x1 rs' rx => w ι' H' σ c d x1 rs' (re.ext rs x1) rx
  | bad => rw [h] at w; exact w.elim

/-! ### plain statements -/
theorem ps_asg_ {tg : Expr} {t : Tg} (he : PE X e (tE g W fa)) (hg : PG X tg (gE g t)) (hs : swapsWithSole [tg] e pos.line X.env = pure false) (hw : swappedStores [tg] e X.env = pure none) (h1 : (assignEach [tg] X.env).map (·.2) = [assign tg X.env]) :
    PS X (.Assign [tg] e pos) (tS g W fun ρ s => (fa ρ s).fl ρ fun x s => (keepR x s).fl ρ fun d s => match bindT t d ρ with | some ρ => .nx ρ s | none => .bad) :=
  PS.imp (ps_asg he hg hs hw h1) fun D σ H ⟨ι, ρ, s, re, rs, w⟩ => ⟨ι, ρ, s, re, rs, WpS.keep w re rs fun d s1 ι1 H1 v x1 rs1 rd w0 => by
    cases hb : bindT t d ρ with
    | none => rw [hb] at w0; exact w0.elim
    | some ρ' =>
      rw [hb] at w0
      exact ⟨ι1, ρ, s1, d, ρ', re.ext rs x1, rs1, rd, hb, fun σ' re' _ => w0 ι1 H1 σ' x1 rs1 re'⟩⟩
theorem ps_setLc_ {i : Nat} {y : Str} {py spos : Pos} {elt tg' iter : Expr} {ifs : List Expr} {scope : Scope} {own : List (Str × Nat)} {tg : Tg} {fi : Env → Sto → R Items} {fc : Env → Sto → R Bool} {fe : Env → Sto → R T}
    (hK : X.K = g.K) (hc : X.calm = true) (hN : X.N.Nodup) (hy : X.N[i]? = some y) (hyl : X.env.scope.names.lookup y = some .local)
    (hsw : swapsWith (.ListComp elt [⟨tg', iter, ifs, 0⟩] scope pos) (some (.Name y py)) spos.line X.env = pure true) (hi : PI X tg' iter (tI g W fi)) (ok : BlkOk X.N X.env.scope scope own) (hsl : ∀ i ∈ tg.slots, i ∈ own.map (·.2))
    (hg : ∀ (s : Shared) (H : Hp) (C : Addr) (cl : List (Str × Addr)) (fp : List Addr), PG (X.blk s H scope (compEnvC scope cl C X.env) fp) tg' (gE g tg))
    (ht : ∀ (s : Shared) (H : Hp) (C : Addr) (cl : List (Str × Addr)) (fp : List Addr), PTs (X.blk s H scope (compEnvC scope cl C X.env) fp) ifs (tT g noW fc))
    (he : ∀ (s : Shared) (H : Hp) (C : Addr) (cl : List (Str × Addr)) (fp : List Addr), PE (X.blk s H scope (compEnvC scope cl C X.env) fp) elt (tE g noW fe)) (hs : ∀ x, foldedSetIterable iter X.env x = pure x) :
    PS X (.Assign [.Name y py] (.ListComp elt [⟨tg', iter, ifs, 0⟩] scope pos) spos) (tS g W fun ρ s => ((fi ρ s).bind fun I s => lcLoop (lcF tg (own.map (·.2)) ρ fc fe) I.src I.xs [] s).fl ρ fun x s => (keepR x s).fl ρ fun d s => .nx (ρ.set i (some d)) s) :=
  PS.imp (ps_setLc hc hN hy hyl hsw hi ok hg ht he hs) fun D σ H ⟨ι, ρ, s, re, rs, w⟩ => lc_ok hsl ⟨ι, ρ, s, re, rs, WpS.keep w re rs fun d s1 ι1 H1 v x1 rs1 rd w0 =>
    w0 ι1 H1 _ x1 rs1 ((re.ext rs x1).set i rd)⟩
theorem ps_lockN {st : Stmt} {t : TS} (h : PS X st t) : PS X st (fun D σ H => t { D with nx := fun σ' H' => D.nx σ' H' ∨ ∃ a u, H' a = some u ∧ Mut (some u) ∧ ∀ od, D.nx σ' (L2.upd H' a (.frz od u)) } σ H) :=
  ⟨fun pins s σ H D I w => wpAny_mono (h.run pins s σ H _ I w) (fun f s' hq => by
    cases f with
    | next =>
      obtain ⟨σ', H', I', q⟩ := hq
      rcases q with q | ⟨a, u, e, mu, q⟩
      · exact ⟨σ', H', I', q⟩
      · obtain ⟨od, J⟩ := I'.lock e mu
        exact ⟨σ', _, J, q od⟩
    | brk => exact hq
    | cont => exact hq
    | ret u => exact hq) fun _ _ hq => hq⟩
theorem ps_setLcF_ {i : Nat} {y : Str} {py spos : Pos} {elt tg' iter : Expr} {ifs : List Expr} {scope : Scope} {own : List (Str × Nat)} {tg : Tg} {fi : Env → Sto → R Items} {fc : Env → Sto → R Bool} {fe : Env → Sto → R T}
    (hK : X.K = g.K) (hc : X.calm = true) (hN : X.N.Nodup) (hy : X.N[i]? = some y) (hyl : X.env.scope.names.lookup y = some .local)
    (hsw : swapsWith (.ListComp elt [⟨tg', iter, ifs, 0⟩] scope pos) (some (.Name y py)) spos.line X.env = pure true) (hi : PI X tg' iter (tI g W fi)) (ok : BlkOk X.N X.env.scope scope own) (hsl : ∀ i ∈ tg.slots, i ∈ own.map (·.2))
    (hg : ∀ (s : Shared) (H : Hp) (C : Addr) (cl : List (Str × Addr)) (fp : List Addr), PG (X.blk s H scope (compEnvC scope cl C X.env) fp) tg' (gE g tg))
    (ht : ∀ (s : Shared) (H : Hp) (C : Addr) (cl : List (Str × Addr)) (fp : List Addr), PTs (X.blk s H scope (compEnvC scope cl C X.env) fp) ifs (tT g noW fc))
    (he : ∀ (s : Shared) (H : Hp) (C : Addr) (cl : List (Str × Addr)) (fp : List Addr), PE (X.blk s H scope (compEnvC scope cl C X.env) fp) elt (tE g noW fe)) (hs : ∀ x, foldedSetIterable iter X.env x = pure x) :
    PS X (.Assign [.Name y py] (.ListComp elt [⟨tg', iter, ifs, 0⟩] scope pos) spos) (tS g W fun ρ s => ((fi ρ s).bind fun I s => lcLoop (lcF tg (own.map (·.2)) ρ fc fe) I.src I.xs [] s).fl ρ fun x s => .nx (ρ.set i (some x.froz)) s) :=
  PS.imp (ps_lockN (ps_setLc hc hN hy hyl hsw hi ok hg ht he hs)) fun D σ H ⟨ι, ρ, s, re, rs, w⟩ => lc_ok hsl ⟨ι, ρ, s, re, rs, WpS.step (RA := rlT g) w re rs fun t s1 ι1 H1 v _ x1 rs1 r1 w0 => by
    cases t with
    | v d =>
      left
      cases r1.1 with
      | v rd => exact w0 ι1 H1 _ x1 rs1 ((re.ext rs x1).set i rd)
    | l xs =>
      right
      obtain ⟨r, fr⟩ := r1
      cases r with
      | @l _ a vs h n rd =>
        have nnH : nn H a := by
          obtain ⟨b, eb, q⟩ := fr
          cases eb
          exact q
        refine ⟨a, _, h, trivial, fun od => ?_⟩
        have x2 : Ext ι H ι1 (L2.upd H1 a (.frz od (.lst vs))) := ⟨x1.pre, fun b o eb nb hn => by
          have ne : b ≠ a := fun q => by subst q; exact nn_no nnH eb hn
          rw [upd_ne ne]
          exact x1.keep b o eb nb hn, x1.new⟩
        exact w0 ι1 _ _ x2 (rs1.lk h n) ((re.ext rs x2).set i (.fro (.inl ⟨od, upd_same⟩) (rd.lk h)))⟩
theorem ps_ret_ (he : PE X e (tE g W fa)) : PS X (.Return (some e) pos) (tS g W fun ρ s => (fa ρ s).fl ρ fun x s => .rt x s) :=
  PS.imp (ps_ret he) fun D σ H ⟨ι, ρ, s, re, rs, w⟩ => ⟨ι, ρ, s, re, rs, WpS.step (RA := rlT g) w re rs fun t s1 ι1 H1 v _ x1 rs1 r1 w0 => w0 ι1 H1 v x1 rs1 r1⟩
theorem ps_ret0_ : PS X (.Return none pos) (tS g W fun _ s => .rt (.v .non) s) :=
  PS.imp ps_retN fun D σ H ⟨ι, ρ, s, re, rs, w⟩ => w ι H _ Ext.refl rs (rlT.v .non)
theorem ps_expr_ (he : PE X e (tE g W fa)) (hs : swapsWith e none pos.line X.env = pure false) : PS X (.Expr e pos) (tS g W fun ρ s => (fa ρ s).fl ρ fun _ s => .nx ρ s) :=
  PS.imp (ps_expr he hs) fun D σ H ⟨ι, ρ, s, re, rs, w⟩ => ⟨ι, ρ, s, re, rs, WpS.step (RA := rlT g) w re rs fun t s1 ι1 H1 v _ x1 rs1 r1 w0 => w0 ι1 H1 σ x1 rs1 (re.ext rs x1)⟩
theorem ps_pass_ : PS X (.Pass pos) (tS g W fun ρ s => .nx ρ s) := PS.imp ps_pass fun D σ H ⟨ι, ρ, s, re, rs, w⟩ => w ι H σ Ext.refl rs re
theorem ps_brk_ : PS X (.Break pos) (tS g W fun ρ s => .bk ρ s) := PS.imp ps_break fun D σ H ⟨ι, ρ, s, re, rs, w⟩ => w ι H σ Ext.refl rs re
theorem ps_cont_ : PS X (.Continue pos) (tS g W fun ρ s => .ct ρ s) := PS.imp ps_continue fun D σ H ⟨ι, ρ, s, re, rs, w⟩ => w ι H σ Ext.refl rs re
theorem ps_if_ {x : Expr} {a b : List Stmt} {f1 f2 : Env → Sto → Fl} (hc : PT X x (tT g W (thr fa))) (ha : PSs X a (tS g W f1)) (hb : PSs X b (tS g W f2)) :
    PS X (.If x a b pos) (tS g W fun ρ s => (fa ρ s).fl ρ fun x s => match truth x s with | some true => f1 ρ s | some false => f2 ρ s | none => .bad) :=
  PS.imp (ps_if hc ha hb) fun D σ H ⟨ι, ρ, s, re, rs, w⟩ => ⟨ι, ρ, s, re, rs, cond_ok w re rs (fun x s1 ι1 H1 x1 rs1 w1 => by rw [if_pos rfl]; exact ⟨ι1, ρ, s1, re.ext rs x1, rs1, w1⟩)
    fun x s1 ι1 H1 x1 rs1 w1 => by rw [if_neg Bool.false_ne_true]; exact ⟨ι1, ρ, s1, re.ext rs x1, rs1, w1⟩⟩
theorem ps_par_ {i j : Nat} {x y : Str} {a b : Expr} {px py pt : Pos} {kt k2 : Nat} {pt2 : Pos} {fa fb : Env → Sto → R T} (hc : X.calm = true) (hN : X.N.Nodup) (hi : X.N[i]? = some x) (hj : X.N[j]? = some y) (hij : i ≠ j)
    (hx : X.env.scope.names.lookup x = some .local) (hy : X.env.scope.names.lookup y = some .local) (ha : PA X [a, b] (tA g W (aCons fa (aCons fb aNil))))
    (hw : swappedStores [.Tuple [.Name x px, .Name y py] kt pt] (.Tuple [a, b] k2 pt2) X.env = pure (some [x, y])) :
    PS X (.Assign [.Tuple [.Name x px, .Name y py] kt pt] (.Tuple [a, b] k2 pt2) pos) (tS g W fun ρ s => (fa ρ s).fl ρ fun x s => (keepR x s).fl ρ fun d s => (fb ρ s).fl ρ fun y s => (keepR y s).fl ρ fun e s => .nx ((ρ.set i (some d)).set j (some e)) s) :=
  PS.imp (ps_par hc hN hi hj hij hx hy ha hw rfl) fun D σ H ⟨ι, ρ, s, re, rs, w⟩ => ⟨ι, ρ, s, re, rs, by
    have e : ((fa ρ s).fl ρ fun x s => (keepR x s).fl ρ fun d s => (fb ρ s).fl ρ fun y s => (keepR y s).fl ρ fun e s => Fl.nx ((ρ.set i (some d)).set j (some e)) s) =
        (aCons fa (aCons fb aNil) ρ s).fl ρ fun ds s => match ds with | [d, e] => Fl.nx ((ρ.set i (some d)).set j (some e)) s | _ => .bad := by
      unfold aCons aNil
      cases fa ρ s with
      | ok t s1 =>
        simp only [R.bind_ok, R.fl_ok, keepR]
        cases fb ρ (t.keep s1).2 with
        | ok t' s2 => rfl
        | ex _ _ => rfl
        | bad => rfl
      | ex _ _ => rfl
      | bad => rfl
    dsimp only at w
    rw [e] at w
    refine WpS.step (RA := rlDs g) w re rs fun ds s1 ι1 H1 vs _ x1 rs1 rds w0 => ?_
    match ds, rds, w0 with
    | [d, e], rds, w0 =>
      obtain ⟨v, u, rfl, r1, r2⟩ := RDs.two rds
      exact ⟨v, u, rfl, w0 ι1 H1 _ x1 rs1 (((re.ext rs x1).set i r1).set j r2)⟩
    | [], _, w0 => exact w0.elim
    | [_], _, w0 => exact w0.elim
    | _ :: _ :: _ :: _, _, w0 => exact w0.elim⟩
theorem ps_aug_ {i : Nat} {x : Str} {op : Bop} {pos' : Pos} (hN : X.N.Nodup) (hi : X.N[i]? = some x) (hx : L2.Loc X.env.scope x) (hf : X.fn x = true ∨ X.env.scope.names.lookup x = some .local) (he : PE X e (tE g W fa)) (hop : op = .add ∨ op = .sub) :
    PS X (.AugAssign (.Name x pos') (opOf op) e pos) (tS g W fun ρ s => match ρ[i]? with
      | some (some (.int a)) => (fa ρ s).fl ρ fun y s => match augT op a y with
        | some c => .nx (ρ.set i (some (.int c))) s
        | none => .bad
      | _ => .bad) := by
  have gen : ∀ (f : Int → Int → Int), PIp X (opOf op) (ipI f) → (∀ (a : Int) (y : T) c, augT op a y = some c → ∃ b, y = .v (.int b) ∧ c = f a b) →
      PS X (.AugAssign (.Name x pos') (opOf op) e pos) (tS g W fun ρ s => match ρ[i]? with
      | some (some (.int a)) => (fa ρ s).fl ρ fun y s => match augT op a y with
        | some c => .nx (ρ.set i (some (.int c))) s
        | none => .bad
      | _ => .bad) := fun f hp hf' =>
    PS.imp (ps_aug hN hi hx he hp hf) fun D σ H ⟨ι, ρ, s, re, rs, w⟩ => by
      dsimp only at w
      split at w
      · rename_i a hr
        obtain ⟨v, ev, rv⟩ := re.at_ i _ hr
        cases rv.int_
        refine ⟨_, ev, ι, ρ, s, re, rs, WpS.step (RA := rlT g) w re rs fun t s1 ι1 H1 v _ x1 rs1 r1 w0 => ?_⟩
        cases ha : augT op a t with
        | none => rw [ha] at w0; exact w0.elim
        | some c =>
          rw [ha] at w0
          obtain ⟨b, rfl, rfl⟩ := hf' a t c ha
          cases r1.1.int_
          exact ⟨a, b, rfl, rfl, w0 ι1 H1 _ x1 rs1 ((re.ext rs x1).set i (.int _))⟩
      · exact w.elim
  rcases hop with rfl | rfl
  · refine gen (fun i j => i + j) ip_add fun a y c h => ?_
    cases y with
    | l _ => simp [augT] at h
    | v d => cases d <;> simp [augT] at h; exact ⟨_, rfl, h.symm⟩
  · refine gen (fun i j => i - j) ip_sub fun a y c h => ?_
    cases y with
    | l _ => simp [augT] at h
    | v d => cases d <;> simp [augT] at h; exact ⟨_, rfl, h.symm⟩

/-! ### o[i] = e -/
theorem dicPut_ok {o : T} {k d : Fy.D} {s' : Sto} {v z u : V} (rs : RS g ι s H) (r1 : RT g ι H o v) (r2 : RD g ι H k z) (r3 : RD g ι H d u) (e : dicPut o k d s = some s') :
    ∃ a H', v = .ref a ∧ DPut H a z u H' ∧ RS g ι s' H' ∧ Ext ι H ι H' := by
  unfold dicPut at e
  split at e
  · rename_i n
    split at e
    · rename_i t kvs hn
      cases r1 with
      | v r1 => cases r1 with
        | @loc _ a q =>
          obtain ⟨b, e1, ro⟩ := rs.at_ n _ hn
          have eb : b = a := by rw [q] at e1; exact (Option.some.inj e1).symm
          subst eb
          cases t with
          | true => simp [dkey] at e
          | false =>
            obtain ⟨vk, e2, rk⟩ := ro
            simp only [dkey, Bool.false_eq_true, if_false, Option.bind_eq_some_iff, Option.map_eq_some_iff] at e
            obtain ⟨_, ⟨k', ek, rfl⟩, e⟩ := e
            split at e
            · rename_i hl
              cases e
              have eu := dkA_ok r2 ek
              subst eu
              have hs : sizeLine = LIM := sizeLine_eq
              have hlen : vk.length < sizeLine := by
                have : kvs.length = vk.length := Paired.length rk
                rw [hs, ← this]; exact hl
              obtain ⟨rs', x⟩ := rs.chg (o := .dic false (dset kvs [k'] d)) (u := .dK (putK vk k' u)) (List.getElem?_eq_some_iff.mp hn).1 q e2 rfl ⟨_, upd_same, (dset_rel rk k' r3).of fun z => z.sto e2 rfl⟩
              exact ⟨b, _, rfl, .k e2 hlen, rs', x⟩
            · cases e
    · cases e
  · cases e
theorem putAt_some {o : T} {k d : Fy.D} {s s' : Sto} (h : putAt o k d s = some s') : dicPut o k d s = some s' ∨ ∃ n j xs m, o = .v (.loc n) ∧ k = .int j ∧ s[n]? = some (.lst xs) ∧ ixN xs.length j = some m ∧ s' = s.set n (.lst (xs.set m d)) := by
  unfold putAt at h
  split at h
  · rename_i e
    cases h
    exact .inl e
  split at h
  · split at h
    · rename_i n j _ _ xs hn
      simp only [Option.map_eq_some_iff] at h
      obtain ⟨m, hm, e⟩ := h
      exact .inr ⟨n, j, xs, m, rfl, rfl, hn, hm, e.symm⟩
    · cases h
  · cases h
/-- a store into a list or a dict -/
theorem set_any (hu : X.A.units + 1 < cLine) : PSet X (fun o i v H Q => (∃ a H', o = .ref a ∧ DPut H a i v H' ∧ Q H') ∨ rSetL o i v H Q) := by
  intro pins s σ H o i v ov iv u Q I ro ri rv h
  rcases h with ⟨a, H', eo, dp, q⟩ | h
  · subst eo
    obtain rfl : ov = Value.ref a := ro
    exact d_setItem hu I dp ri rv fun s' I' => ⟨H', I', q⟩
  · exact set_list pins s σ H o i v ov iv u Q I ro ri rv h
theorem ps_put_ {o i : Expr} {fo fi : Env → Sto → R T} {tpos : Pos} (hu : X.A.units + 65 < cLine) (he : PE X e (tE g W fa)) (ho : PE X o (tE g W fo)) (hi : PE X i (tE g W fi)) (hs : notStar i = true) (hs2 : swapsWithSole [.Subscript o i tpos] e pos.line X.env = pure false) :
    PS X (.Assign [.Subscript o i tpos] e pos) (tS g W fun ρ s => (fa ρ s).fl ρ fun x s => (keepR x s).fl ρ fun d s => (fo ρ s).fl ρ fun o s => (fi ρ s).fl ρ fun y s => match y with
      | .v k => (match putAt o k d s with | some s => .nx ρ s | none => .bad)
      | _ => .bad) :=
  PS.imp (ps_asg he (pg_sub ho hi (set_any (by omega)) (fun v => by cases i <;> first | rfl | (simp [notStar] at hs))) hs2 rfl rfl) fun D σ H ⟨ι, ρ, s, re, rs, w⟩ =>
    ⟨ι, ρ, s, re, rs, WpS.keep w re rs fun d s1 ι1 H1 v x1 rs1 rd w0 => ⟨ι1, ρ, s1, re.ext rs x1, rs1, WpS.step (RA := rlT g) (WpS.shift w0 x1) (re.ext rs x1) rs1 fun t s2 ι2 H2 u _ x2 rs2 r2 w2 =>
      ⟨ι2, ρ, s2, re.ext rs (x1.trans x2), rs2, WpS.step (RA := rlT g) (WpS.shift w2 x2) (re.ext rs (x1.trans x2)) rs2 fun y s3 ι3 H3 z _ x3 rs3 r3 w3 => by
        have rt := r2.1.ext rs2 x3
        have rd3 := (rd.ext rs1 x2).ext rs2 x3
        cases y with
        | l _ => exact w3.elim
        | v k =>
          simp only at w3
          cases hp : putAt t k d s3 with
          | none => rw [hp] at w3; exact w3.elim
          | some s4 =>
            rw [hp] at w3
            rcases putAt_some hp with hp | ⟨n, j, xs, m, rfl, rfl, hn, hm, rfl⟩
            · have rk : RD g ι3 H3 k z := by cases r3.1 with | v q => exact q
              obtain ⟨a, H4, ea, dp, rs4, x4⟩ := dicPut_ok rs3 rt rk rd3 hp
              exact .inl ⟨a, H4, ea, dp, w3 ι3 _ σ (x3.trans x4) rs4 ((re.ext rs ((x1.trans x2).trans x3)).ext rs3 x4)⟩
            · cases r3.1.int_
              obtain ⟨a, vs, ea, hv, dv⟩ := mlst_ok rs3 rt (show mlstOf (.v (.loc n)) s3 = some xs by simp [mlstOf, hn])
              have hloc : ι3[n]? = some a := by
                cases rt with | v q => cases q with | loc q => cases ea; exact q
              obtain ⟨rs4, x4⟩ := rs3.put hn hloc hv (dv.set rd3 m)
              subst ea
              exact .inr ⟨a, vs, j, m, rfl, rfl, hv, by rw [← dv.length]; exact hm, w3 ι3 _ σ (x3.trans x4) rs4 ((re.ext rs ((x1.trans x2).trans x3)).ext rs3 x4)⟩⟩⟩⟩
theorem RDs.three {d e f : Fy.D} {vs : List V} (r : RDs g ι H [d, e, f] vs) : ∃ u v w, vs = [u, v, w] ∧ RD g ι H d u ∧ RD g ι H e v ∧ RD g ι H f w := by
  cases r with | cons r1 t => cases t with | cons r2 t => cases t with | cons r3 t => cases t; exact ⟨_, _, _, rfl, r1, r2, r3⟩
theorem ps_par3_ {i j l : Nat} {x y z : Str} {a b c : Expr} {px py pz pt : Pos} {kt k2 : Nat} {pt2 : Pos} {fs : Env → Sto → R (List Fy.D)} (hc : X.calm = true) (hN : X.N.Nodup) (hi : X.N[i]? = some x) (hj : X.N[j]? = some y) (hl : X.N[l]? = some z) (hij : i ≠ j) (hil : i ≠ l) (hjl : j ≠ l)
    (hx : X.env.scope.names.lookup x = some .local) (hy : X.env.scope.names.lookup y = some .local) (hz : X.env.scope.names.lookup z = some .local) (ha : PA X [a, b, c] (tA g W fs))
    (hw : swappedStores [.Tuple [.Name x px, .Name y py, .Name z pz] kt pt] (.Tuple [a, b, c] k2 pt2) X.env = pure (some [x, y, z])) :
    PS X (.Assign [.Tuple [.Name x px, .Name y py, .Name z pz] kt pt] (.Tuple [a, b, c] k2 pt2) pos) (tS g W fun ρ s => (fs ρ s).fl ρ fun ds s => match ds with | [d, e, f] => .nx (((ρ.set i (some d)).set j (some e)).set l (some f)) s | _ => .bad) :=
  PS.imp (ps_par3 hc hN hi hj hl hij hil hjl hx hy hz ha hw rfl) fun D σ H ⟨ι, ρ, s, re, rs, w⟩ => ⟨ι, ρ, s, re, rs, WpS.step (RA := rlDs g) w re rs fun ds s1 ι1 H1 vs _ x1 rs1 rds w0 => by
    match ds, rds, w0 with
    | [d, e, f], rds, w0 =>
      obtain ⟨u, v, w, rfl, r1, r2, r3⟩ := RDs.three rds
      exact ⟨u, v, w, rfl, w0 ι1 H1 _ x1 rs1 ((((re.ext rs x1).set i r1).set j r2).set l r3)⟩
    | [], _, w0 => exact w0.elim
    | [_], _, w0 => exact w0.elim
    | [_, _], _, w0 => exact w0.elim
    | _ :: _ :: _ :: _ :: _, _, w0 => exact w0.elim⟩
end
end Fy
end
section
set_option Elab.async false
set_option linter.all false
set_option maxRecDepth 100000
set_option maxHeartbeats 4000000
/-! FzL: a comprehension whose element may lean on the frame around it. -/
namespace Fy
open PySem PySem.Spec PyProof.Rows L2
section
variable {X : Cx} {pins : List (Addr × Obj)} {s : Shared} {σ : L2.St} {H : Hp} {Q : VK} {elt tg iter : Expr} {ifs : List Expr} {scope : Scope} {own : List (Str × Nat)} {pos : Pos} {wi : TI} {g : TG} {tt : TT} {te : TE}
/-- the block's context, begun at r with the heap G -/
abbrev bctx (X : Cx) (r : Shared) (G : Hp) (scope : Scope) (fp : List Addr) : Cx :=
  X.blk r G scope (compEnvC scope (cellsFrom (r.heap.objs.size + 1) scope.names (cloFrom X.env.cells scope.names [])) r.heap.objs.size X.env) fp
theorem lcX_run (hcalm : X.calm = true) (hnd : X.N.Nodup) (J0 : Inv X pins σ H s) (pit : PI X tg iter wi) (bo : BlkOk X.N X.env.scope scope own)
    (ptg : ∀ (r : Shared) (G : Hp) (C : Addr) (cl : List (Str × Addr)) (fp : List Addr), PG (X.blk r G scope (compEnvC scope cl C X.env) fp) tg g)
    (pts : ∀ (r : Shared) (G : Hp) (C : Addr) (cl : List (Str × Addr)) (fp : List Addr), PTs (X.blk r G scope (compEnvC scope cl C X.env) fp) ifs tt)
    (pel : ∀ (r : Shared) (G : Hp) (fp : List Addr), Inv X pins σ G r → (∀ b ∈ fp, FpOk X pins G b ∧ b < r.heap.objs.size) → PE (bctx X r G scope fp) elt te)
    (nofold : ∀ x, foldedSetIterable iter X.env x = pure x) (want : tLc wi g tt te (own.map (·.2)) σ H Q) :
    wpAny (model X.prog X.w) X.A (eval (.ListComp elt [⟨tg, iter, ifs, 0⟩] scope pos) X.env) (EP X pins σ Q) X.xe s := by
  have caps : ∀ y ∈ scope.names, y.2 = .free → ∃ c, X.env.cells.lookup y.1 = some c := fun y my ey => (bo.free y my ey).elim (fun k => J0.ok.has _ (.inl k)) fun k => J0.ok.has _ (.inr k)
  rw [eval_ListComp]
  refine wpAny_comprehension_free (use := none) rfl nofold (closure_ok caps) bo.kind (fun y my ey => by rw [bo.uniq y my, ey])
    (thn (pit.run pins s σ H _ J0 want) fun xv r1 hx => thn hx fun itv r2 h2 => ?_)
  obtain ⟨it, fp, tn, J, G2, rfl, J2, T, stand2, ok2, q2⟩ := h2
  refine wpAny_newObj_type (newEnv_comp ?_) (by show 0 ≤ sizeLine; decide)
  generalize eL : r2.heap.objs.size = L
  have freeL : G2 L = none := J2.hok.fresh (Nat.le_of_eq eL)
  obtain ⟨Wd, ⟨m0, w0⟩, turn⟩ := q2 L freeL
  generalize er3 : ({ r2 with heap := r2.heap.push { cls := .type "list", data := .seq ([] : List Value).toArray } } : Shared) = r3
  have eh3 : r3.heap = r2.heap.push { cls := .type "list", data := .seq ([] : List Value).toArray } := by rw [← er3]
  have J3 : Inv X pins σ (upd G2 L (.lst [])) r3 := by
    subst er3
    refine J2.laid (t' := r2.toks) (fun b o e => Heap.get?_push_of_some _ e) (Nat.le_of_eq eL) ⟨Nat.zero_le _, [], 0, .nil, ?_⟩
    subst eL
    exact Heap.get?_push_size _ rfl
  have small : ∀ b ∈ fp, b < r2.heap.objs.size := fun b mb => let ⟨_, e, _⟩ := T.obj _ _ stand2 b mb; Heap.lt_size e
  have ok3 : ∀ b ∈ fp, FpOk X pins (upd G2 L (.lst [])) b ∧ b < r3.heap.objs.size := fun b mb => by
    have lt := small b mb
    have ne : b ≠ L := by rw [← eL]; exact Nat.ne_of_lt lt
    exact ⟨⟨by rw [upd_ne ne]; exact (ok2 b mb).1, (ok2 b mb).2⟩, by rw [eh3, Heap.size_push]; exact Nat.lt_succ_of_lt lt⟩
  have stand3 : tn 0 r3.heap := T.keep _ _ _ stand2 fun b _ o e => by rw [eh3]; exact Heap.get?_push_of_some _ e
  have J4 := block_start J3 bo hnd ok3
  have Pg := ptg r3 (upd G2 L (.lst [])) r3.heap.objs.size (cellsFrom (r3.heap.objs.size + 1) scope.names (cloFrom X.env.cells scope.names [])) fp
  have Pt := pts r3 (upd G2 L (.lst [])) r3.heap.objs.size (cellsFrom (r3.heap.objs.size + 1) scope.names (cloFrom X.env.cells scope.names [])) fp
  have Pe := pel r3 (upd G2 L (.lst [])) fp J3 ok3
  have none3 : ∀ b ∈ fp, (upd G2 L (.lst [])) b = none := fun b mb => (ok3 b mb).1.1
  unfold bctx at Pe
  show codeAny _ _ (.compStart (.ListComp elt [⟨tg, iter, ifs, 0⟩] scope pos) 0 (.ref it) (.ref L) (compEnvC scope (cellsFrom (r3.heap.objs.size + 1) scope.names (cloFrom X.env.cells scope.names [])) r3.heap.objs.size X.env))
    (compPost (model X.prog X.w) X.A X.xe none (EP X pins σ Q) (.ref L) r3.heap.objs.size) { r3 with heap := pushCells (r3.heap.push { cls := .type "dict", data := .dict #[] }) scope.names }
  generalize ece : compEnvC scope (cellsFrom (r3.heap.objs.size + 1) scope.names (cloFrom X.env.cells scope.names [])) r3.heap.objs.size X.env = ce at J4 Pg Pt Pe ⊢
  have locC : ce.locals = r3.heap.objs.size := by subst ece; rfl
  generalize eG3 : upd G2 L (.lst []) = G3 at J3 J4 Pg Pt Pe w0 none3 ok3
  generalize er4 : ({ r3 with heap := pushCells (r3.heap.push { cls := .type "dict", data := .dict #[] }) scope.names } : Shared) = r4 at J4 ⊢
  have stand4 : tn 0 r4.heap := T.keep _ _ _ stand3 fun b _ o e => by subst er4; exact pushCells_keeps _ _ _ _ (Heap.get?_push_of_some _ e)
  have fps : ∀ {ρ : L2.St} {G : Hp} {r : Shared}, Inv (X.blk r3 G3 scope ce fp) [] ρ G r → (∀ b ∈ fp, G b = none) → ∀ b ∈ fp, FpOk (X.blk r3 G3 scope ce fp) [] G b := fun {ρ G r} JJ nn b mb =>
    ⟨nn b mb, (JJ.ok.exf b mb).1, JJ.ok.exfs b mb, .inl mb, fun x c e => (JJ.ok.exf b mb).2 x c e, fun p hp => absurd (show p ∈ ([] : List (Addr × Obj)) ++ [] from hp) (by simp)⟩
  have loop : codeAny (model X.prog X.w) X.A (.compLoop (.ListComp elt [⟨tg, iter, ifs, 0⟩] scope pos) 0 (.ref it) (.ref L) ce) (compPost (model X.prog X.w) X.A X.xe none (EP X pins σ Q) (.ref L) r3.heap.objs.size) r4 := by
    refine compLoop_any (fun n r => ∃ i G, Inv (X.blk r3 G3 scope ce fp) [] (wipe σ (own.map (·.2))) G r ∧ tn i r.heap ∧ (∀ b ∈ fp, G b = none) ∧ Wd i n G) ?_ m0 ⟨0, G3, J4, stand4, none3, w0⟩
    rintro n r5 ⟨i, G5, J5, stand5, none5, w5⟩
    rcases turn i n G5 w5 with ⟨stop, qq⟩ | ⟨go, Nx, hNx, step⟩
    · refine thnF (T.done (X.blk r3 G3 scope ce fp) rfl rfl rfl hcalm i [] r5 _ G5 (fun _ _ => False) J5 (fps J5 none5) stand5 stop) fun r r6 hr6 => ?_
      obtain ⟨rfl, J6⟩ := hr6
      have J7 : Inv X pins σ G5 r6 := J3.call' (ch := fp) J6.os J6.base J6.hok J6.bare fun b mb => ⟨(ok3 b mb).1.2.2.2.1, (ok3 b mb).1.2.1, (ok3 b mb).1.2.2.2.2.1, (ok3 b mb).1.2.2.2.2.2⟩
      have freeC : G5 r3.heap.objs.size = none := by
        have z : G5 ce.locals = none := J6.free
        rw [locC] at z; exact z
      obtain ⟨m, hm, _⟩ := J6.loc
      have hm : r6.heap.Ns ce.locals m := hm
      rw [locC] at hm
      obtain ⟨f0, f1, f2, f3, f4, f5⟩ := J3.fpOk (Nat.le_refl _) freeC
      exact ⟨m, hm, fun h'' sb => ⟨.ref L, G5, J7.turned (t' := r6.toks) (fun b o nb e => (sb.2 b nb).trans e) f0 f1 f3 f4 f5, rfl, qq⟩⟩
    · refine thnF (T.item (X.blk r3 G3 scope ce fp) rfl rfl rfl hcalm i [] r5 _ G5 (fun _ _ => False) J5 (fps J5 none5) stand5 go) fun r r6 hr6 => ?_
      obtain ⟨u, rfl, h6⟩ := hr6
      refine thnF h6 fun _ r7 h7 => ?_
      obtain ⟨x, G7, J7, rx7, y7, stand7, none7⟩ := h7
      have objs7 := T.obj _ _ stand7
      refine thnF (Pg.run _ r7 _ G7 x u _ (J7.pinned (fps J7 none7) objs7) rx7 (step x G7 y7)) fun _ r8 h8 => ?_
      obtain ⟨σ8, G8, J8, wiped, q8⟩ := h8
      refine thnF (Pt.run _ r8 σ8 G8 _ J8 q8) fun b r9 h9 => ?_
      obtain ⟨G9, J9, q9⟩ := h9
      have close : ∀ {r : Shared} {G : Hp}, Inv (X.blk r3 G3 scope ce fp) ([] ++ pinsAt fp r7.heap) σ8 G r → Nx G → ∃ m, m < n ∧ ∃ i G, Inv (X.blk r3 G3 scope ce fp) [] (wipe σ (own.map (·.2))) G r ∧ tn i r.heap ∧ (∀ b ∈ fp, G b = none) ∧ Wd i m G := fun {r G} JJ nx => by
        obtain ⟨m', lt, w'⟩ := hNx G nx
        have held : ∀ b ∈ fp, ∀ o, r7.heap.get? b = some o → r.heap.get? b = some o ∧ G b = none := fun b mb o e => by
          have z := JJ.pin (b, o) (List.mem_append_right _ (List.mem_append_right _ (mem_pinsAt mb e)))
          exact ⟨z.1, z.2.1⟩
        have same : (wipe σ (own.map (·.2))).length = σ8.length := by rw [← wiped, wipe_length]
        refine ⟨m', lt, i + 1, G, Inv.weak (Inv.unpinned (pins := []) JJ) same (fun j v e => ?_), T.keep _ _ _ stand7 fun b mb o e => (held b mb o e).1, fun b mb => ?_, w'⟩
        · rw [← wiped] at e
          exact (wipe_some e).1
        · obtain ⟨o, e, _⟩ := objs7 b mb
          exact (held b mb o e).2
      cases b with
      | false =>
        rw [if_neg Bool.false_ne_true] at q9 ⊢
        exact close J9 q9
      | true =>
        rw [if_pos rfl] at q9 ⊢
        refine thnF (Pe.run _ r9 σ8 G9 _ J9 q9) fun z r10 h10 => ?_
        obtain ⟨yv, G10, J10, ry, acc, eD, room, nx⟩ := h10
        exact L2.app_ok (X := X.blk r3 G3 scope ce fp) J10 eD room ry fun r11 J11 => close J11 nx
  exact codeAny_compStart_list loop (T.self X.A 0 _ _ _ stand4 loop)
end
end Fy
end
section
set_option Elab.async false
set_option linter.all false
set_option maxRecDepth 100000
set_option maxHeartbeats 4000000
/-! FzV: lambdas kept in a list; x(work), work one of these. -/
namespace Fy
open PySem PySem.Spec PyProof.Rows L2 LamX
/-- a lambda's text -/
structure LamT where
  params : Arguments
  body : Expr
  scope : Scope
  pos : Pos
def LamT.ex (l : LamT) : Expr := .Lambda l.params l.body l.scope l.pos
/-- its object -/
abbrev lamO (X : Cx) (l : LamT) (pm ctv : Value) (c' : Addr) : Obj := PySem.W.kla_obj "<lambda>" (X.env.qual ++ "<lambda>") l.params l.body l.scope (cloFrom X.env.cells l.scope.names []) pm c' ctv
def LamAt (X : Cx) (H : Hp) (l : LamT) (p : Addr × Obj) : Prop := ∃ pm ctv c', p.2 = lamO X l pm ctv c' ∧ H c' = some (CodeO c' (X.env.qual ++ "<lambda>"))
theorem LamAt.ext {X : Cx} {H H1 : Hp} {l : LamT} {p : Addr × Obj} (h : LamAt X H l p) (e : ExtN H H1) : LamAt X H1 l p := by
  obtain ⟨pm, ctv, c', h1, h2⟩ := h
  exact ⟨pm, ctv, c', h1, e _ _ h2 codeO_ne⟩
/-- what is known of a lambda: it captures and has globals, its body tells fe -/
structure LamOk (g : Glo) (k : Nat) (X : Cx) (l : LamT) (fe : Env → Sto → R T) : Prop where
  par : noPar l.params = true
  sc : LamS X.env.scope l.scope
  body : ∀ (A : Around) (outer : List PySem.Env) (s : Shared) (H : Hp) (E : XK) (f c' : Addr), Room (4 * k + 4) (A.deeper (lamEnv X l.scope s.heap.objs.size f c')) → PE (lamCx X A outer s H E l.scope f c') l.body (tE g (fun c d _ H => E c d H) fe)
section
variable {g : Glo} {k : Nat} {X : Cx} {pins : List (Addr × Obj)} {σ : L2.St} {H : Hp} {s r : Shared} {G : Hp} {scope : Scope} {fp : List Addr} {x c n : Str} {i : Nat} {p p2 pos : Pos}
theorem nopar_eq {ps : Arguments} (h : noPar ps = true) : ps = ⟨[], [], none, [], [], none, []⟩ := by
  unfold noPar at h
  split at h
  · rfl
  · cases h
/-- one lambda made: pinned from then on -/
theorem lam_pin (hst : X.stack = X.env :: X.outer) (hfr : X.env.frame = some X.env.locals) (D : Deep g k X) (l : LamT) (hp : noPar l.params = true) (L : LamS X.env.scope l.scope) {Q : Value → Shared → Prop} {E : Value → Shared → Prop} (J : Inv X pins σ H s) (T0 : Tabs g.T H)
    (h : ∀ q H1 s', Inv X (q :: pins) σ H1 s' → ExtN H H1 → Tabs g.T H1 → LamAt X H1 l q → Q (.ref q.1) s') : wpAny (model X.prog X.w) X.A (eval l.ex X.env) Q E s := by
  obtain ⟨co, Pt, TB, hcode, hmT, hu⟩ := D.tab
  have ep := nopar_eq hp
  unfold LamT.ex
  refine lam_make2 J TB hcode hmT hu T0 (by rw [ep]; rfl) (L.has J.ok) fun f c' pm ctv H1 s' J1 eN T1 hf hfn hnf hco => ?_
  refine h (f, lamO X l pm ctv c') H1 s' ?_ eN T1 ⟨pm, ctv, c', rfl, hco⟩
  rw [hst] at hnf
  have n1 : f ≠ X.env.locals := fun e => hnf (List.mem_filterMap.mpr ⟨X.env, List.mem_cons_self, by rw [hfr, e]⟩)
  have n2 : f ∉ X.fs := fun m => hnf (by
    obtain ⟨e, me, he⟩ := List.mem_filterMap.mp m
    exact List.mem_filterMap.mpr ⟨e, List.mem_cons_of_mem _ me, he⟩)
  exact J1.pins_of fun q hq => by
    rcases List.mem_cons.mp hq with rfl | hq
    · exact ⟨hf, hfn, n1, n2, fun v => by unfold lamO PySem.W.kla_obj; intro z; cases z⟩
    · exact J1.pin q (List.mem_append_right _ hq)
/-- several -/
theorem lams_pin (hst : X.stack = X.env :: X.outer) (hfr : X.env.frame = some X.env.locals) (D : Deep g k X) {E : Value → Shared → Prop} (cp : Pos) : ∀ (ls : List LamT) (pins : List (Addr × Obj)) (H : Hp) (s : Shared) (Q : List Value → Shared → Prop),
    (∀ l ∈ ls, noPar l.params = true ∧ LamS X.env.scope l.scope) → Inv X pins σ H s → Tabs g.T H →
    (∀ new H1 s', Inv X (new ++ pins) σ H1 s' → ExtN H H1 → Tabs g.T H1 → Paired (LamAt X H1) ls new → Q (new.map fun q => .ref q.1) s') →
    wpAny (model X.prog X.w) X.A (spliced (backTo cp (starEach (ls.map LamT.ex) X.env))) Q E s
  | [], pins, H, s, Q, _, J, T0, h => Calls.spliced_nil (h [] H s J (ExtN.refl H) T0 .nil)
  | l :: ls, pins, H, s, Q, hl, J, T0, h => by
    show wpAny _ _ (spliced ((false, eval l.ex X.env) :: backTo cp (starEach (ls.map LamT.ex) X.env))) _ _ s
    refine Calls.spliced_cons (lam_pin hst hfr D l (hl l (by simp)).1 (hl l (by simp)).2 J T0 fun q H1 s1 J1 e1 T1 a1 => ?_)
    refine lams_pin hst hfr D cp ls (q :: pins) H1 s1 _ (fun l' hm => hl l' (by simp [hm])) J1 T1 fun new H2 s2 J2 e2 T2 a2 => ?_
    have J3 : Inv X ((q :: new) ++ pins) σ H2 s2 := J2.pins_of fun z hz => J2.pin z (List.mem_append_right _ (by
      rcases List.mem_append.mp hz with hz | hz
      · rcases List.mem_cons.mp hz with rfl | hz
        · simp
        · simp [hz]
      · simp [hz]))
    exact h (q :: new) H2 s2 J3 (e1.trans e2) T2 (.cons (a1.ext e2) a2)
/-- x(work): what the def tells of the lambda that work is -/
theorem pe_heardv (hK : X.K = g.K) (D : Deep g k X) (hd : Hd2Ok g X.mg x c) (hst : X.stack = X.env :: X.outer) (hfr : X.env.frame = some X.env.locals) (J3 : Inv X pins σ G r) (ok3 : ∀ b ∈ fp, FpOk X pins G b ∧ b < r.heap.objs.size)
    (hgl : Gl (bctx X r G scope fp) x) (hn : X.N[i]? = some n) (hv : Vis (bctx X r G scope fp).env.scope n) (hn1 : (n == ("__debug__" : Str)) = false) (hn2 : (n == ("__classdict__" : Str)) = false) :
    PE (bctx X r G scope fp) (.Call (.Name x p) [.Name n p2] [] pos) (fun σ1 H1 Q => ∃ (f : Addr) (ob : Obj) (l : LamT) (fe : Env → Sto → R T) (ι : List Addr) (ρ : Env) (s : Sto), σ1[i]? = some (some (.ref f)) ∧ (f, ob) ∈ pins ∧ LamOk g k X l fe ∧ LamAt X H1 l (f, ob) ∧
      RE g ι H1 ρ σ ∧ RS g ι s H1 ∧ Wp g noW (rlT g) σ ι H1 (heard2F c fe ρ s) Q) := by
  obtain ⟨fa, CF, CS, pg, sg, dV, kV, doc, pm0, cdv, ct, oc, an, od, osl, Ng, a, nn', cf, i', j1, j2, pp, hm, hk, lk, hcg, hbd, Sg, hN0, hva, hi, hln, hgc, hmc, hgd, hmd, hga, hgi, hmi, T, EC, hno, d1, d0, d2, d3, d4, d5, d6, hex, hki, hstart⟩ := hd.ok
  refine ⟨fun pinsB sB σB HB Q JB want => ?_⟩
  refine wpAny_Call_Name_kw (ld_glob JB hgl hm ?_ d6)
  refine PySem.W.callWith_K (h₀ := X.base) JB.ok.mod.kin (hK ▸ hk) ?_ (by rfl) (by rfl)
  show wpAny _ _ (spliced ((false, eval (.Name n p2) _) :: backTo pos (starEach [] _))) _ _ sB
  refine Calls.spliced_cons (thn ((pe_var (X := bctx X r G scope fp) (pos := p2) (i := i) hn hv hn1 hn2).run pinsB sB σB HB (fun v H1 => H1 = HB ∧ σB[i]? = some (some v)) JB ?_) fun u s1 hu => ?_)
  · obtain ⟨f, _, _, _, _, _, _, e, _⟩ := want
    exact ⟨.ref f, e, rfl, e⟩
  obtain ⟨v, H1, J1, rv, rfl, ev⟩ := hu
  obtain ⟨f, ob, l, fe, ι, ρ, s, ef, hin, lo, ⟨pm, ctv, c', eo, hco⟩, re, rs, w⟩ := want
  rw [ev] at ef
  cases ef
  cases rv
  refine Calls.spliced_nil ⟨J1.kIn, ?_⟩
  -- the frame around, as it stands now
  have JO : Inv X pins σ H1 s1 := J3.call' (ch := fp) J1.os J1.base J1.hok J1.bare fun b mb => ⟨(ok3 b mb).1.2.2.2.1, (ok3 b mb).1.2.1, (ok3 b mb).1.2.2.2.2.1, (ok3 b mb).1.2.2.2.2.2⟩
  obtain ⟨g1, g2, g3, g4, _⟩ := JO.pin (f, ob) (List.mem_append_right _ hin)
  have g5 : f ∉ frs X.stack := fun m => by
    rcases List.mem_cons.mp (JO.stkSub f m) with e | e
    · exact g3 e
    · exact g4 e
  have ep := nopar_eq lo.par
  have hobj : s1.heap.get? f = some (lamO X l pm ctv c') := by
    have z : s1.heap.get? f = some ob := g1
    rw [z, show ob = _ from eo]
  have hbind : bindArgs (PySem.W.kla_fn "<lambda>" (X.env.qual ++ "<lambda>") l.params l.body l.scope (cloFrom X.env.cells l.scope.names []) pm (.ref c') ctv) ⟨[], []⟩ = pure [] := by rw [ep]; rfl
  have tells : THeard2 CS "none" (fun E H' Q' => tE g (fun c d _ H => E c d H) fe σ H' Q') H1 Q := by
    refine ⟨ι, ρ, s, re, rs, ?_⟩
    unfold heard2F at w
    cases hf : fe ρ s with
    | ok t s' =>
      rw [hf] at w
      exact fun ι' H' b x2 rs2 r2 => w ι' H' (.str "none") x2 rs2 (rlT.v (.str _))
    | ex y s' =>
      rw [hf] at w
      simp only at w
      split at w
      · rename_i hc
        intro ι' H' cv d x2 rs2 rx
        obtain ⟨ec, dx, v, ed, ex, rv⟩ := rx
        have ecv : cv = .ref CS := by rw [ec, hc, hga]
        exact ⟨ecv, dx, [("at", v)], v, ed, ex, by simp [List.lookup], w ι' H' v x2 rs2 (rlT.v rv)⟩
      · exact w.elim
    | bad => rw [hf] at w; exact w.elim
  have gives := heard2_gives (X := X) (Ng := Ng) (x := x) (g := fa) (cdg := cdv) (a := a) (oth := "other") (non := "none") (j1 := j1) (j2 := j2) (p := pp) (q := X.env.qual ++ "<lambda>") hgc hmc d1 hgd hmd d0 hgi hmi hstart Sg.nd hi hln d2 d3 (hK ▸ T) (hK ▸ EC) (hK ▸ hno) Sg.kind (hK ▸ hex) (hK ▸ hki)
  have rc : codeAny (model X.prog X.w) X.A (.call (.ref fa) ⟨[.ref f], []⟩) (CR C8.CX0 X.stack X.prog X.w H1 s1 Q C8.E0) s1 := by
    refine run_ofS (N := Ng) (ps := [a]) (us := [.ref f]) (vs := [.ref f]) (hK ▸ lk) (hK ▸ hcg) Sg D.room JO.env0 ((hK ▸ hbd) s1 [.ref f] JO.kIn rfl) (.cons rfl .nil) rfl fun hr' => ?_
    obtain ⟨t', ht', hq'⟩ := gives f c' s1 H1 Q (fun E H' Q' => tE g (fun c d _ H => E c d H) fe σ H' Q')
      (fun W pn xe E p1 p2 tk hW => pe_act (i := 0) JO lo.sc hobj g2 g5 hbind tk hW hr' (fun A outer s H hr2 => lo.body A outer s H E f c' hr2) hN0 hva d4 d5) hco tells
    exact ⟨t', ht'.nox, hq'⟩
  refine wpAny_call (codeAny_mono rc fun z s2 hq => ?_)
  cases z with
  | error e => exact (show False from hq).elim
  | ok fl =>
    cases fl with
    | ret u => exact J1.after hq
    | next => exact hq.elim
    | brk => exact hq.elim
    | cont => exact hq.elim
end
end Fy
end
section
set_option Elab.async false
set_option linter.all false
set_option maxRecDepth 100000
set_option maxHeartbeats 4000000
/-! FzW: works = [lambda: .., ..]; works = works + [..]; return all([x(work) == w for work in works]). -/
namespace Fy
open PySem PySem.Spec PyProof.Rows L2 LamX
section
variable {g : Glo} {k : Nat} {W : WX} {X : Cx}
theorem RE.hide {ι : List Addr} {H : Hp} {ρ : Env} {σ : L2.St} {i : Nat} {v : V} (r : RE g ι H (ρ.set i none) σ) : RE g ι H (ρ.set i none) (σ.set i (some v)) := by
  refine ⟨by rw [r.len]; simp, fun j d e => ?_⟩
  by_cases hj : i = j
  · subst hj
    by_cases hi : i < ρ.length
    · rw [List.getElem?_set_self hi] at e; cases e
    · rw [List.getElem?_eq_none (by simpa using hi)] at e; cases e
  · rw [List.getElem?_set_ne hj]
    exact r.at_ j d e
theorem RE.blank {ι : List Addr} {H : Hp} {ρ : Env} {σ : L2.St} (r : RE g ι H ρ σ) (i : Nat) : RE g ι H (ρ.set i none) σ := by
  refine ⟨by simp [r.len], fun j d e => ?_⟩
  by_cases hj : i = j
  · subst hj
    by_cases hi : i < ρ.length
    · rw [List.getElem?_set_self hi] at e; cases e
    · rw [List.getElem?_eq_none (by simpa using hi)] at e; cases e
  · rw [List.getElem?_set_ne hj] at e
    exact r.at_ j d e
theorem extN_up {H : Hp} {a : Addr} {o : HO} (h : H a = none) : ExtN H (L2.upd H a o) := fun b u e _ => by rw [upd_ne (ne_of_none e h)]; exact e
theorem tabs_up {T : List (Addr × Str)} {H : Hp} {a : Addr} {o : HO} (h : H a = none) (t : Tabs T H) : Tabs T (L2.upd H a o) := t.ext fun b u e => by rw [upd_ne (ne_of_none e h)]; exact e
theorem paired_ext {H H1 : Hp} (e : ExtN H H1) : ∀ {ls : List LamT} {new : List (Addr × Obj)}, Paired (LamAt X H) ls new → Paired (LamAt X H1) ls new
  | _, _, .nil => .nil
  | _, _, .cons a t => .cons (a.ext e) (paired_ext e t)
theorem paired_app {α β : Type} {r : α → β → Prop} : ∀ {a1 a2 : List α} {b1 b2 : List β}, Paired r a1 b1 → Paired r a2 b2 → Paired r (a1 ++ a2) (b1 ++ b2)
  | _, _, _, _, .nil, h => h
  | _, _, _, _, .cons x t, h => .cons x (paired_app t h)
theorem paired_get {α β : Type} {r : α → β → Prop} : ∀ {a : List α} {b : List β} {i : Nat} {y : β}, Paired r a b → b[i]? = some y → ∃ x, a[i]? = some x ∧ r x y
  | _, _, _, _, .nil, h => by simp at h
  | _, _, 0, _, .cons x t, h => by
    simp at h; subst h
    exact ⟨_, by simp, x⟩
  | _, _, i + 1, _, .cons x t, h => by
    obtain ⟨z, e, q⟩ := paired_get (i := i) t (by simpa using h)
    exact ⟨z, by simpa using e, q⟩
theorem refs_vals : ∀ (l : List (Addr × Obj)), Vals (l.map fun q => V.ref q.1) (l.map fun q => Value.ref q.1)
  | [] => .nil
  | _ :: l => .cons rfl (refs_vals l)
/-- a name set, at the state as it stands -/
theorem set_run (σ : L2.St) {s : Shared} {i : Nat} {x : Str} {e : Expr} {px pos : Pos} {Q : Flow → Shared → Prop} {R : V → Hp → List (Addr × Obj) → Prop} (hN : X.N.Nodup) (hi : X.N[i]? = some x) (hx : Loc X.env.scope x) (hf : X.fn x = true ∨ X.env.scope.names.lookup x = some .local)
    (hs : swapsWith e (some (.Name x px)) pos.line X.env = pure false)
    (he : wpAny (model X.prog X.w) X.A (eval e X.env) (fun u s1 => ∃ v H1 pn, Inv X pn σ H1 s1 ∧ RelV v u ∧ R v H1 pn) X.xe s)
    (h : ∀ v H1 pn s2, Inv X pn (σ.set i (some v)) H1 s2 → R v H1 pn → Q .next s2) : wpAny (model X.prog X.w) X.A (exec (.Assign [.Name x px] e pos) X.env) Q X.xe s :=
  wpAny_Assign_Name (thn he fun u s1 ⟨v, H1, pn, J1, rv, q⟩ => store_ok J1 hN hi hx rv (fun s2 J2 => h v H1 pn s2 J2 q) hf) hs
theorem paired_getL {α β : Type} {r : α → β → Prop} : ∀ {a : List α} {b : List β} {i : Nat} {x : α}, Paired r a b → a[i]? = some x → ∃ y, b[i]? = some y ∧ r x y
  | _, _, _, _, .nil, h => by simp at h
  | _, _, 0, _, .cons x t, h => by
    simp at h; subst h
    exact ⟨_, by simp, x⟩
  | _, _, i + 1, _, .cons x t, h => by
    obtain ⟨z, e, q⟩ := paired_getL (i := i) t (by simpa using h)
    exact ⟨z, by simpa using e, q⟩
theorem heard2_noex {c : Str} {fe : Env → Sto → R T} {ρ : Env} {s s' : Sto} {y : Xc} (h : heard2F c fe ρ s = .ex y s') : False := by
  unfold heard2F at h
  split at h
  · cases h
  · split at h <;> cases h
  · cases h
theorem bools_map : ∀ bs : List Bool, bools (bs.map Fy.D.bl) = some bs
  | [] => rfl
  | b :: bs => by simp [bools, bools_map bs]
theorem rds_bools {ι : List Addr} {H : Hp} : ∀ bs : List Bool, RDs g ι H (bs.map Fy.D.bl) (bs.map V.bl)
  | [] => .nil
  | b :: bs => .cons (.bl b) (rds_bools bs)
theorem pss_wk_ {ls1 ls2 : List LamT} {fes : List (Env → Sto → R T)} {f c w n1 n2 : Str} {iw ik : Nat} {scope : Scope} {jj : Nat} {p1 p2 p3 p4 p5 p6 p7 p8 p9 p10 p11 p12 p13 p14 p15 p16 p17 p18 p19 : Pos}
    (hK : X.K = g.K) (hcalm : X.calm = true) (hnd : X.N.Nodup) (D : Deep g k X) (hd : Hd2Ok g X.mg f c) (hst : X.stack = X.env :: X.outer) (hfr : X.env.frame = some X.env.locals)
    (hw : X.N[iw]? = some n1) (hwk : Loc X.env.scope n1) (hwf : X.fn n1 = true ∨ X.env.scope.names.lookup n1 = some .local) (hwd : (n1 == ("__debug__" : Str)) = false) (hwc : (n1 == ("__classdict__" : Str)) = false)
    (hk : X.N[ik]? = some n2) (bo : BlkOk X.N X.env.scope scope [(n2, ik)]) (hk1 : Loc (relS scope X.env.scope) n2) (hk2 : fbOf scope n2 = true ∨ (relS scope X.env.scope).names.lookup n2 = some .local) (hkd : (n2 == ("__debug__" : Str)) = false) (hkc : (n2 == ("__classdict__" : Str)) = false)
    (hgl : glB (relS scope X.env.scope) f = true) (hga : Gl X "all") (hma : X.mg "all" = none) (hlim1 : ls1.length + ls2.length ≤ 100000)
    (hl : Paired (LamOk g k X) (ls1 ++ ls2) fes) :
    PSs X [.Assign [.Name n1 p1] (.List (ls1.map LamT.ex) p2) p3, .Assign [.Name n1 p4] (.BinOp (.Name n1 p5) .Add (.List (ls2.map LamT.ex) p6) p7) p8,
      .Return (some (.Call (.Name "all" p9) [.ListComp (.Compare (.Call (.Name f p10) [.Name n2 p11] [] p12) [.Eq] [.Constant (.str w) jj p13] p14) [⟨.Name n2 p15, .Name n1 p16, [], 0⟩] scope p17] [] p18)) p19]
      (tS g W fun ρ s => (wkF c w fes (ρ.set iw none) s).fl (ρ.set iw none) fun bs s => .rt (.v (.bl (bs.all id))) s) := by
  have lamOf : ∀ {ls : List LamT} {fs : List (Env → Sto → R T)}, Paired (LamOk g k X) ls fs → ∀ l ∈ ls, noPar l.params = true ∧ LamS X.env.scope l.scope := by
    intro ls fs h
    induction h with
    | nil => intro l hm; cases hm
    | cons a t ih =>
      intro l hm
      rcases List.mem_cons.mp hm with rfl | hm
      · exact ⟨a.par, a.sc⟩
      · exact ih l hm
  have lams := lamOf hl
  have hsz : sizeLine = LIM := sizeLine_eq
  refine ⟨fun pins s σ H DD J ⟨ι, ρ, st, re, rs, want⟩ => ?_⟩
  -- the first list
  refine wpAny_execs_cons (set_run σ (R := fun v H1 pn => ∃ new a, v = .ref a ∧ pn = new ++ pins ∧ H1 a = some (.lst (new.map fun q => V.ref q.1)) ∧ ExtN H H1 ∧ Tabs g.T H1 ∧ Paired (LamAt X H1) ls1 new) hnd hw hwk hwf rfl
    (wpAny_List_spliced (lams_pin hst hfr D p2 ls1 pins H s _ (fun l hm => lams l (List.mem_append_left _ hm)) J rs.tb fun new H1 s1 J1 e1 T1 a1 => ⟨?_, ?_⟩)) fun v H1 pn s2 J2 ⟨new, a, ev, epn, eH, e1, T1, a1⟩ => ?_)
  · rw [List.length_map, ← Paired.length a1, hsz]
    exact Nat.le_trans (by omega) (show 100000 ≤ LIM by decide)
  · have fr := J1.hok.fresh (Nat.le_refl s1.heap.objs.size)
    refine ⟨.ref s1.heap.objs.size, L2.upd H1 s1.heap.objs.size (.lst (new.map fun q => V.ref q.1)), new ++ pins, J1.laid (t' := s1.toks) (fun b u e => Heap.get?_push_of_some _ e) (Nat.le_refl _) ?_, rfl, new, _, rfl, rfl, upd_same, e1.trans (extN_up fr), tabs_up fr T1, paired_ext (extN_up fr) a1⟩
    refine ⟨?_, new.map fun q => Value.ref q.1, 0, refs_vals new, Heap.get?_push_size _ rfl⟩
    rw [List.length_map, ← Paired.length a1, hsz]
    exact Nat.le_trans (by omega) (show 100000 ≤ LIM by decide)
  subst ev epn
  -- the second
  have hvw : Vis X.env.scope n1 := hwk.elim .inl fun z => .inr (.inl z)
  have hlen : σ.length = X.N.length := J.len
  have hiw : iw < σ.length := by rw [hlen]; exact (List.getElem?_eq_some_iff.mp hw).1
  refine wpAny_execs_cons (set_run (σ.set iw (some (.ref a))) (R := fun v H2 pn => ∃ new2 b, v = .ref b ∧ pn = new2 ++ (new ++ pins) ∧ H2 b = some (.lst ((new ++ new2).map fun q => V.ref q.1)) ∧ ExtN H1 H2 ∧ Tabs g.T H2 ∧ Paired (LamAt X H2) ls2 new2 ∧ b ∉ ι) hnd hw hwk hwf rfl
    (wpAny_BinOp (thn ((pe_var (pos := p5) hw hvw hwd hwc).run _ _ _ _ (fun v H2 => v = .ref a ∧ H2 = H1) J2 ⟨.ref a, List.getElem?_set_self hiw, rfl, rfl⟩) fun u s3 ⟨v, H2, J3, rv, ev, eH2⟩ => ?_)) fun v H2 pn s4 J4 ⟨new2, b, ev, epn, eH2, e2, T2, a2, nb⟩ => ?_)
  · subst ev eH2
    cases rv
    refine wpAny_List_spliced (lams_pin hst hfr D p6 ls2 _ _ _ _ (fun l hm => lams l (List.mem_append_right _ hm)) J3 T1 fun new2 H3 s4 J4 e2 T2 a2 => ⟨?_, ?_⟩)
    · rw [List.length_map, ← Paired.length a2, hsz]
      exact Nat.le_trans (by omega) (show 100000 ≤ LIM by decide)
    · have fr := J4.hok.fresh (Nat.le_refl s4.heap.objs.size)
      have J5 := J4.laid (o := .lst (new2.map fun q => V.ref q.1)) (t' := s4.toks) (h' := s4.heap.push { cls := .type "list", data := .seq (new2.map fun q => Value.ref q.1).toArray }) (fun b u e => Heap.get?_push_of_some _ e) (Nat.le_refl _) (by
        refine ⟨?_, new2.map fun q => Value.ref q.1, 0, refs_vals new2, Heap.get?_push_size _ rfl⟩
        rw [List.length_map, ← Paired.length a2, hsz]
        exact Nat.le_trans (by omega) (show 100000 ≤ LIM by decide))
      have eN := e2.trans (extN_up (o := .lst (new2.map fun q => V.ref q.1)) fr)
      refine thn (op_cat (X := X) _ _ _ _ (.ref a) (.ref s4.heap.objs.size) _ _ (fun v H4 => ∃ b, v = .ref b ∧ H4 b = some (.lst ((new ++ new2).map fun q => V.ref q.1)) ∧ ExtN H3 H4 ∧ Tabs g.T H4 ∧ b ∉ ι) J5 rfl rfl ⟨a, s4.heap.objs.size, _, _, rfl, rfl, eN _ _ eH (fun _ z => by cases z), upd_same, ?_, fun q hq => ⟨q, rfl, ?_, ?_, ?_, ?_⟩⟩) fun u s5 ⟨v, H4, J6, rv, b, ev, eb, e4, T4, nb⟩ => ?_
      · rw [List.length_map, List.length_map, ← Paired.length a1, ← Paired.length a2, hsz]
        exact Nat.le_trans hlim1 (by decide)
      · rw [upd_same, List.map_append]
      · exact (extN_up fr).trans (extN_up hq)
      · exact tabs_up hq (tabs_up fr T2)
      · intro m
        obtain ⟨u, eu, ku⟩ := rs.kind m
        have z := (e1.trans eN) q u eu (fun ps z => by rw [z] at ku; cases ku)
        rw [hq] at z
        cases z
      · exact ⟨v, H4, new2 ++ (new ++ pins), J6, rv, new2, b, ev, rfl, eb, e2.trans e4, T4, paired_ext e4 a2, nb⟩
  subst ev epn
  have a12 : Paired (LamAt X H2) (ls1 ++ ls2) (new ++ new2) := paired_app (paired_ext e2 a1) a2
  generalize enew : new ++ new2 = news at eH2 a12
  have inPins : ∀ q ∈ news, q ∈ new2 ++ (new ++ pins) := fun q hq => by
    rw [← enew] at hq
    rcases List.mem_append.mp hq with h | h
    · exact List.mem_append_right _ (List.mem_append_left _ h)
    · exact List.mem_append_left _ h
  generalize eσ : (σ.set iw (some (V.ref a))).set iw (some (V.ref b)) = σ2 at J4
  have hb2 : σ2[iw]? = some (some (.ref b)) := by
    rw [← eσ]
    exact List.getElem?_set_self (by simpa using hiw)
  -- the data behind it
  have eN := e1.trans e2
  have xN : Ext ι H ι H2 := ext_of eN
  have kN : ∀ m, m ∈ ι → H2 m = H m := fun m hm => by
    obtain ⟨u, e, ku⟩ := rs.kind hm
    rw [e]
    exact eN m u e (fun ps z => by rw [z] at ku; cases ku)
  have rs2 : RS g ι st H2 := rs.ext xN kN T2
  have re2 : RE g ι H2 (ρ.set iw none) σ2 := by
    rw [← eσ]
    exact (((re.ext rs xN).blank iw).hide).hide
  dsimp only at want
  generalize ρ.set iw none = ρ0 at want re2
  have limN : news.length ≤ 100000 := by rw [← Paired.length a12, List.length_append]; exact hlim1
  let QL : VK := fun v H' => ∃ (D : Addr) (bs : List Bool) (ι' : List Addr) (s' : Sto), v = .ref D ∧ H' D = some (.lst (bs.map V.bl)) ∧ D ∉ ι' ∧ RS g ι' s' H' ∧ Ext ι H2 ι' H' ∧ WpS g W DD ι H (.rt (.v (.bl (bs.all id))) s')
  have comp : wpAny (model X.prog X.w) X.A (eval (.ListComp (.Compare (.Call (.Name f p10) [.Name n2 p11] [] p12) [.Eq] [.Constant (.str w) jj p13] p14) [⟨.Name n2 p15, .Name n1 p16, [], 0⟩] scope p17) X.env) (EP X (new2 ++ (new ++ pins)) σ2 QL) X.xe s4 := by
    refine lcX_run hcalm hnd J4 (pi_list (pe_var hw hvw hwd hwc)) bo (fun r G C cl fp => pg_name (X := X.blk r G scope (compEnvC scope cl C X.env) fp) hnd hk hk1 hk2) (fun r G C cl fp => pts_nil)
      (fun r G fp J3 ok3 => pe_cmpR op_eq (pe_heardv (g := g) (k := k) hK D hd hst hfr J3 ok3 (glB_ok (X := bctx X r G scope fp) hgl) hk (hk1.elim .inl fun z => .inr (.inl z)) hkd hkc) pe_str (nomark _)) (fun _ => rfl) ?_
    refine ⟨.ref b, hb2, b, rfl, ⟨_, .inl (.inl eH2)⟩, fun D0 hD => ?_⟩
    refine lc_list (xs := news.map fun q => V.ref q.1) (fun i H' => ∃ (ι' : List Addr) (s' : Sto) (bs : List Bool), bs.length = i ∧ Ext ι H2 ι' H' ∧ RS g ι' s' H' ∧ H' D0 = some (.lst (bs.map V.bl)) ∧ D0 ∉ ι' ∧
      WpS g W DD ι H ((wkF c w (fes.drop i) ρ0 s').fl ρ0 fun bs' s'' => .rt (.v (.bl ((bs ++ bs').all id))) s'')) ⟨ι, st, [], rfl, Ext.upd hD, rs2.upd hD, upd_same, rs2.free hD, by simpa using want⟩ ?_ ?_ ?_
    · rintro i H' _ ⟨ι', s', bs, _, x', _, _, _, _⟩
      exact .inl (.inl (x'.keep b _ eH2 nb rfl))
    · rintro i x H' hx ⟨ι', s', bs, hbs, x', rs', hD', nD, want'⟩
      rw [List.getElem?_map, Option.map_eq_some_iff] at hx
      obtain ⟨⟨fo, ob⟩, hq, rfl⟩ := hx
      obtain ⟨l, hl1, la⟩ := paired_get a12 hq
      obtain ⟨fe, hfe, lo⟩ := paired_getL hl hl1
      refine ⟨(wipe_set (by simp)).trans (wipe_wipe σ2 _), ?_⟩
      dsimp only [tYes]
      rw [if_pos rfl]
      have hikl : ik < (wipe σ2 [ik]).length := by
        rw [wipe_length, ← eσ, List.length_set, List.length_set, hlen]
        exact (List.getElem?_eq_some_iff.mp hk).1
      have hdrop : fes.drop i = fe :: fes.drop (i + 1) := by
        obtain ⟨hlt, ee⟩ := List.getElem?_eq_some_iff.mp hfe
        rw [List.drop_eq_getElem_cons hlt, ee]
      rw [hdrop] at want'
      unfold wkF at want'
      have la' : LamAt X H' l (fo, ob) := by
        obtain ⟨pm, ctv, c', h1, h2⟩ := la
        exact ⟨pm, ctv, c', h1, x'.keep _ _ h2 (rs2.apart h2 rfl) rfl⟩
      refine ⟨fo, ob, l, fe, ι', ρ0, s', List.getElem?_set_self hikl, inPins _ (List.mem_of_getElem? hq), lo, la', re2.ext rs2 x', rs', ?_⟩
      cases hh : heard2F c fe ρ0 s' with
      | ex y s6 => exact (heard2_noex hh).elim
      | bad => rw [hh] at want'; exact want'.elim
      | ok tt s6 =>
        rw [hh] at want'
        simp only [R.bind_ok] at want'
        intro ι6 H6 v x6 rs6 r6
        split at want'
        · rename_i z
          have ev : v = .str z := by
            cases r6.1 with | v q => cases q; rfl
          subst ev
          refine ⟨rfl, bs.map V.bl, x6.keep _ _ hD' nD rfl, ?_, ι6, s6, bs ++ [decide (z = w)], by simp [hbs], ?_, rs6.tmp (x6.keep _ _ hD' nD rfl) (x6.out hD' nD), ?_, x6.out hD' nD, ?_⟩
          · rw [List.length_map, hbs, hsz]
            have : i < news.length := (List.getElem?_eq_some_iff.mp hq).1
            exact Nat.lt_of_lt_of_le this (Nat.le_trans limN (by decide))
          · have x26 := x'.trans x6
            exact ⟨x26.pre, fun c0 o ec nc hn => by
              rw [upd_ne (ne_of_none ec hD)]
              exact x26.keep c0 o ec nc hn, x26.new⟩
          · rw [upd_same, List.map_append]
            have : decide (V.str z = V.str w) = decide (z = w) := by
              by_cases h : z = w
              · simp [h]
              · have : ¬ V.str z = V.str w := fun e => h (by injection e)
                simp [h, this]
            rw [this]
            rfl
          · cases hw2 : wkF c w (fes.drop (i + 1)) ρ0 s6 with
            | ok bs' s7 =>
              rw [hw2] at want'
              simp only [R.bind_ok, R.fl_ok] at want' ⊢
              rw [List.append_assoc]
              exact want'
            | ex y s7 => rw [hw2] at want'; exact want'
            | bad => rw [hw2] at want'; exact want'
        · exact want'.elim
    · rintro H' ⟨ι', s', bs, hbs, x', rs', hD', nD, want'⟩
      rw [List.length_map] at want' hbs
      have e0 : fes.drop news.length = [] := by
        rw [List.drop_eq_nil_iff, ← Paired.length hl, Paired.length a12]
        exact Nat.le_refl _
      rw [e0] at want'
      refine ⟨D0, bs, ι', s', rfl, hD', nD, rs', x', ?_⟩
      simpa [wkF] using want'
  refine wpAny_execs_cons (wpAny_Return_some (wpAny_Call_Name_kw (ld_blt J4 hga hma (show bootBuiltins "all" = some (.builtin "all") by decide +kernel) ?_ (by decide +kernel) (by decide +kernel))))
  refine PyProof.Rows.callWith_builtin1 (Calls.spliced_cons (thn comp fun u s5 hu => Calls.spliced_nil ?_)) rfl rfl
  obtain ⟨v, H5, J5, rv, D0, bs, ι', s', ev, hD', nD, rs', x', want'⟩ := hu
  subst ev
  cases rv
  refine thn (bi_ok hK hcalm .all (new2 ++ (new ++ pins)) s5 σ2 H5 [.ref D0] [.ref D0] (fun v H' => DD.rt v H') J5 (.cons rfl .nil) ⟨ι', s', [.l (bs.map Fy.D.bl)], rs', .cons (.l hD' nD (rds_bools bs)) .nil, .v (.bl (bs.all id)), ?_, fun ι7 H7 v x7 rs7 r7 => ?_⟩) fun u s6 hu => ?_
  · simp [biT, lstOf, bools_map]
  · have z := want' ι7 H7 v ((xN.trans x').trans x7) rs7
    exact z ⟨r7.1, by cases r7.1 with | v _ => trivial⟩
  · obtain ⟨v, H6, J6, rv, q⟩ := hu
    exact ⟨v, σ2, H6, J6.pins_of fun q hq => J6.pin q (List.mem_append_right _ (List.mem_append_right _ (List.mem_append_right _ hq))), rv, q⟩
end
end Fy
end
section
set_option Elab.async false
set_option linter.all false
set_option maxRecDepth 100000
set_option maxHeartbeats 4000000
/-! FzA: o[(..)] = e; self.f = e. -/
namespace Fy
open PySem PySem.Spec PyProof.Rows L2
section
variable {g : Glo} {W : WX} {X : Cx} {σ : L2.St} {ι ι1 ι' : List Addr} {H H1 H' : Hp} {s s' : Sto} {e : Expr} {fa : Env → Sto → R T} {pos : Pos}
theorem ps_putT_ {o : Expr} {ks : List Expr} {n : Nat} {kpos tpos : Pos} {fo : Env → Sto → R T} {fk : Env → Sto → R (List Fy.D)} (hu : X.A.units + 65 < cLine) (he : PE X e (tE g W fa)) (ho : PE X o (tE g W fo)) (hk : PA X ks (tA g W fk))
    (hs2 : swapsWithSole [.Subscript o (.Tuple ks n kpos) tpos] e pos.line X.env = pure false) :
    PS X (.Assign [.Subscript o (.Tuple ks n kpos) tpos] e pos) (tS g W fun ρ s => (fa ρ s).fl ρ fun x s => (keepR x s).fl ρ fun d s => (fo ρ s).fl ρ fun o s => (fk ρ s).fl ρ fun ks s =>
      if ks.length ≤ LIM then (match dicPutT o ks d s with | some s => .nx ρ s | none => .bad) else .bad) :=
  PS.imp (ps_dput (by omega) ho (pe_tup hk) he hs2) fun D σ H ⟨ι, ρ, s, re, rs, w⟩ =>
    ⟨ι, ρ, s, re, rs, WpS.keep w re rs fun d s1 ι1 H1 v x1 rs1 rd w0 => ⟨ι1, ρ, s1, re.ext rs x1, rs1, WpS.step (RA := rlT g) (WpS.shift w0 x1) (re.ext rs x1) rs1 fun t s2 ι2 H2 u _ x2 rs2 r2 w2 =>
      ⟨ι2, ρ, s2, re.ext rs (x1.trans x2), rs2, WpS.step (RA := rlDs g) (WpS.shift w2 x2) (re.ext rs (x1.trans x2)) rs2 fun ds s3 ι3 H3 vs _ x3 rs3 r3 w3 => by
        have r3 : RDs g ι3 H3 ds vs := r3
        have hs : sizeLine = LIM := sizeLine_eq
        split at w3
        · rename_i hz
          refine ⟨by rw [hs, ← r3.length]; exact hz, fun p hp => ?_⟩
          have x0 := Ext.upd (ι := ι3) (o := .tup vs) hp
          have rs0 := rs3.upd (o := .tup vs) hp
          have rt := (r2.1.ext rs2 x3).ext rs3 x0
          have rd3 := ((rd.ext rs1 x2).ext rs2 x3).ext rs3 x0
          cases hq : dicPutT t ds d s3 with
          | none => rw [hq] at w3; exact w3.elim
          | some s4 =>
            rw [hq] at w3
            obtain ⟨a, H4, ea, dp, rs4, x4⟩ := dicPutT_ok rs0 rt (r3.ext rs3 x0) upd_same rd3 hq
            exact ⟨a, H4, ea, dp, w3 ι3 _ σ ((x3.trans x0).trans x4) rs4 ((re.ext rs (((x1.trans x2).trans x3).trans x0)).ext rs0 x4)⟩
        · exact w3.elim⟩⟩⟩

theorem rf_put {fs : List (Str × Fy.D)} {vs : List (Str × V)} (r : RF g ι H fs vs) {f : Str} {d : Fy.D} {v : V} (rd : RD g ι H d v) : RF g ι H (fput f d fs) (putF f v vs) := by
  induction r with
  | nil => exact .cons ⟨rfl, rd⟩ .nil
  | @cons p q ps qs h t ih =>
    obtain ⟨p1, p2⟩ := p
    obtain ⟨q1, q2⟩ := q
    have h1 : p1 = q1 := h.1
    subst h1
    unfold fput putF
    by_cases e : p1 = f
    · rw [if_pos e, if_pos e]
      exact .cons ⟨e.symm, rd⟩ t
    · rw [if_neg e, if_neg e]
      exact .cons h ih
theorem fput_mem {f : Str} {d : Fy.D} : ∀ {fs : List (Str × Fy.D)} {p : Str × Fy.D}, p ∈ fput f d fs → p.1 = f ∨ p ∈ fs
  | [], p, h => by
    unfold fput at h
    rw [List.mem_singleton.mp h]
    exact .inl rfl
  | q :: fs, p, h => by
    unfold fput at h
    split at h
    · rcases List.mem_cons.mp h with rfl | h
      · exact .inl rfl
      · exact .inr (List.mem_cons_of_mem _ h)
    · rcases List.mem_cons.mp h with rfl | h
      · exact .inr (List.mem_cons_self ..)
      · rcases fput_mem h with h | h
        · exact .inl h
        · exact .inr (List.mem_cons_of_mem _ h)
theorem ps_sat_ {o : Expr} {c f : Str} {tpos : Pos} {fo : Env → Sto → R T} (hK : X.K = g.K) (hn : NoAttr g.K (g.ga c) f) (he : PE X e (tE g W fa)) (ho : PE X o (tE g W fo))
    (hs2 : swapsWith e (some (.Attribute o f tpos)) pos.line X.env = pure false) :
    PS X (.Assign [.Attribute o f tpos] e pos) (tS g W fun ρ s => (fa ρ s).fl ρ fun x s => (keepR x s).fl ρ fun d s => (fo ρ s).fl ρ fun o s => match fldPut c o f d s with | some s => .nx ρ s | none => .bad) :=
  PS.imp (ps_fld ho he hs2) fun D σ H ⟨ι, ρ, s, re, rs, w⟩ =>
    ⟨ι, ρ, s, re, rs, WpS.keep w re rs fun d s1 ι1 H1 v x1 rs1 rd w0 => ⟨ι1, ρ, s1, re.ext rs x1, rs1, WpS.step (RA := rlT g) (WpS.shift w0 x1) (re.ext rs x1) rs1 fun t s2 ι2 H2 u _ x2 rs2 r2 w2 => by
      have rd2 := rd.ext rs1 x2
      cases hq : fldPut c t f d s2 with
      | none => rw [hq] at w2; exact w2.elim
      | some s3 =>
        rw [hq] at w2
        unfold fldPut at hq
        split at hq
        · rename_i n
          split at hq
          · rename_i c' fs hn2
            split at hq
            · rename_i hc
              obtain ⟨rfl, hl⟩ := hc
              cases hq
              cases r2.1 with
              | v r2 => cases r2 with
                | @loc _ a z =>
                  obtain ⟨b, e1, ro⟩ := rs2.at_ _ _ hn2
                  have eb : b = a := by rw [z] at e1; exact (Option.some.inj e1).symm
                  subst eb
                  obtain ⟨dx, vs, e2, rf, ci⟩ := ro
                  have hlen : vs.length < 1000 := by
                    have : fs.length = vs.length := Paired.length rf
                    rw [← this]; exact hl
                  have ci2 : CiOk g c' (fput f d fs) := ⟨ci.cls, fun p hp => by
                    rcases fput_mem hp with e | h
                    · rw [e]; exact hn
                    · exact ci.na p h⟩
                  obtain ⟨rs3, x3⟩ := rs2.chg (o := .ins c' (fput f d fs)) (u := .ins (g.ga c') dx (putF f v vs)) (List.getElem?_eq_some_iff.mp hn2).1 z e2 rfl ⟨dx, _, upd_same, (rf_put rf rd2).of fun q => q.sto e2 rfl, ci2⟩
                  rw [hK]
                  exact ⟨b, _, dx, vs, rfl, e2, ci.cls, hn, hlen, w2 ι2 _ σ (x2.trans x3) rs3 ((re.ext rs (x1.trans x2)).ext rs2 x3)⟩
            · cases hq
          · cases hq
        · cases hq⟩⟩
end
end Fy
end
section
set_option Elab.async false
set_option linter.all false
set_option maxRecDepth 100000
set_option maxHeartbeats 2000000
/-! Fz3: raise C(e). -/
namespace Fy
open PySem PySem.Spec PyProof.Rows L2
section
variable {g : Glo} {W : WX} {X : Cx}
theorem ps_raise_ {C fI : Addr} {fd : FuncData} {c : Str} {k : Nat} {e : Expr} {fs : Env → Sto → R (List Fy.D)} {p pos pos' : Pos} (hc : X.calm = true) (hK : X.K = g.K) (tk : Takes X W) (T : OexC g.K C) (iC : PySem.W.findIn g.K (.ref C) "__init__" = some (some (.ref fI)))
    (tI : PySem.W.typeIn g.K (.ref fI) = some (.type "function")) (F1 : FnOk X.prog X.w X.K X.mg X.base (L2.CX X.prog X.w) k fI fd ["self", "at"] (spXI C)) (hr : Room (k + 1) X.A) (hb : Binds X.K fd ["self", "at"] []) (hga : g.ga c = C)
    (hg : Gl X c) (hm : X.mg c = some (.ref C)) (hdb : (c == ("__debug__" : Str)) = false) (ha : PA X [e] (tA g W fs)) (he : notStar e = true) :
    PS X (.Raise (some (.Call (.Name c p) [e] [] pos)) none pos') (tS g W fun ρ s => (fs ρ s).fl ρ fun ds s => match ds with | [d] => .ex ρ ⟨c, d⟩ s | _ => .bad) := by
  have hse := star_of he [] X.env
  have hx : Passes (L2.CX X.prog X.w) X (fun _ _ _ => False) := fun pins σ H s e s' I z => by
    obtain ⟨_, _, _, _, _, _, _, _, _, _, _, _, q⟩ := z
    exact q.elim
  refine PS.imp (ps_raise hc tk (pmk_oex (hK ▸ T) (hK ▸ iC) (hK ▸ tI) F1 hr hb .nil hx hg hm ha hdb hse rfl)) fun DD σ H ⟨ι, ρ, s, re, rs, w⟩ => ?_
  refine ⟨ι, ρ, s, re, rs, WpS.step (RA := rlDs g) w re rs fun ds s1 ι1 H1 vs _ x1 rs1 rds w1 => ?_⟩
  match ds, rds, w1 with
  | [], _, w1 => exact w1.elim
  | _ :: _ :: _, _, w1 => exact w1.elim
  | [d], rds, w1 =>
    obtain ⟨y, rfl, ry⟩ := RDs.one rds
    refine ⟨by simp, fun a ea => ⟨a, y, rfl, upd_same, fun dx ed ne => ?_⟩⟩
    have ed1 : H1 dx = none := by rw [upd_ne ne] at ed; exact ed
    refine ⟨rfl, dx, [("at", y)], upd_same, by rw [upd_ne ne, upd_same], ed1, ?_⟩
    have eH : L2.upd (del (L2.upd (L2.upd (L2.upd H1 a (exo a C none)) dx (exd dx [("at", y)])) a (exo a C (some dx))) a) dx (.xd [("at", y)]) = L2.upd H1 dx (.xd [("at", y)]) := by
      funext b
      by_cases h1 : b = dx
      · subst h1
        rw [upd_same, upd_same]
      · rw [upd_ne h1, upd_ne h1]
        by_cases h2 : b = a
        · subst h2
          rw [del_same, ea]
        · rw [del_ne h2, upd_ne h2, upd_ne h1, upd_ne h2]
    rw [eH]
    have x2 : Ext ι1 H1 ι1 (L2.upd H1 dx (.xd [("at", y)])) := Ext.upd ed1
    exact w1 ι1 _ σ (.ref C) (some dx) (x1.trans x2) (rs1.upd ed1) ((re.ext rs x1).ext rs1 x2) ⟨by rw [hga], dx, y, rfl, upd_same, ry.ext rs1 x2⟩
end
end Fy
end
section
set_option Elab.async false
set_option linter.all false
set_option maxRecDepth 100000
set_option maxHeartbeats 1000000
/-! FyD: loops; all statements together. -/
namespace Fy
open PySem PySem.Spec PyProof.Rows L2
section
variable {g : Glo} {W : WX} {X : Cx} {ι : List Addr} {H : Hp} {e : Expr} {pos : Pos}
theorem ps_for_ {tg iter : Expr} {body : List Stmt} {t : Tg} {fi : Env → Sto → R Items} {fb : Env → Sto → Fl} (hp : PassesOwn (model X.prog X.w) X.A X.env X.xe) (hc : X.calm = true) (hi : PI X tg iter (tI g W fi)) (hg : PG X tg (gE g t)) (hb : PSs X body (tS g W fb))
    (hs : ∀ x, foldedSetIterable iter X.env x = pure x) :
    PS X (.For tg iter body [] pos) (tS g W fun ρ s => (fi ρ s).fl ρ fun I s => forLoop (forF t fb) I.src I.xs ρ s) :=
  PS.imp (ps_for hp hc hi hg hb hs) fun D σ H ⟨ι, ρ, s, re, rs, w⟩ => ⟨ι, ρ, s, re, rs, WpS.step (RA := rlI g) w re rs fun I s1 ι1 H1 J _ x1 rs1 wk w1 => by
    have wk' : Walks g ι1 H1 I J := wk
    have w1' := WpS.shift w1 x1
    refine ⟨fun i m σ' H' => m = I.xs.length - i ∧ i ≤ I.xs.length ∧ ∃ ι' ρ' s', Ext ι1 H1 ι' H' ∧ RS g ι' s' H' ∧ RE g ι' H' ρ' σ' ∧
      WpS g W D ι1 H1 (forLoop (forF t fb) I.src (I.xs.drop i) ρ' s'), ⟨_, rfl, Nat.zero_le _, ι1, ρ, s1, Ext.refl, rs1, re.ext rs x1, by simpa using w1'⟩, ?_⟩
    rintro i m σ' H' ⟨rfl, hi, ι', ρ', s', x2, rs2, re2, w2⟩
    by_cases hlt : i < I.xs.length
    · obtain ⟨d, hd⟩ : ∃ d, I.xs[i]? = some d := ⟨I.xs[i], by simp [hlt]⟩
      have hdrop : I.xs.drop i = d :: I.xs.drop (i + 1) := by
        rw [List.drop_eq_getElem_cons hlt]
        congr 1
        rw [List.getElem?_eq_getElem hlt] at hd
        exact Option.some.inj hd
      rw [hdrop] at w2
      unfold forLoop at w2
      cases hst : stands I.src s' with
      | false => rw [hst] at w2; simp only [Bool.false_eq_true, if_false] at w2; exact w2.elim
      | true =>
        rw [hst] at w2
        simp only [if_true] at w2
        obtain ⟨go, _⟩ := wk' ι' H' s' i x2 rs2 hst
        obtain ⟨hgo, yl⟩ := go d hd
        refine .inr ⟨hgo, fun σ3 H3 => ∃ ι3 ρ3 s3, Ext ι1 H1 ι3 H3 ∧ RS g ι3 s3 H3 ∧ RE g ι3 H3 ρ3 σ3 ∧
          WpS g W D ι1 H1 (forLoop (forF t fb) I.src (I.xs.drop (i + 1)) ρ3 s3), fun σ3 H3 h3 => ⟨_, by omega, rfl, hlt, h3⟩, fun x H4 hy => ?_⟩
        obtain ⟨x4, rs4, rd⟩ := yl x H4 hy
        rw [forF_ap] at w2
        cases hb : bindT t d ρ' with
        | none => rw [hb] at w2; exact w2.elim
        | some ρ2 =>
          rw [hb] at w2
          simp only at w2
          refine ⟨ι', ρ', s', d, ρ2, re2.ext rs2 x4, rs4, rd, hb, fun σ2 re5 _ => ⟨ι', ρ2, s', re5, rs4, ?_⟩⟩
          have x24 := x2.trans x4
          cases hf : fb ρ2 s' with
          | nx ρ6 s6 =>
            rw [hf] at w2
            exact fun ι7 H7 σ7 x7 rs7 re7 => ⟨ι7, ρ6, s6, x24.trans x7, rs7, re7, w2⟩
          | ct ρ6 s6 =>
            rw [hf] at w2
            exact fun ι7 H7 σ7 x7 rs7 re7 => ⟨ι7, ρ6, s6, x24.trans x7, rs7, re7, w2⟩
          | rt t6 s6 => rw [hf] at w2; exact WpS.shift (m := .rt t6 s6) w2 x24
          | bk ρ6 s6 => rw [hf] at w2; exact WpS.shift (m := .nx ρ6 s6) w2 x24
          | ex ρ6 y6 s6 => rw [hf] at w2; exact WpS.shift (m := .ex ρ6 y6 s6) w2 x24
          | bad => rw [hf] at w2; exact w2.elim
    · have ei : i = I.xs.length := by omega
      subst ei
      rw [List.drop_length] at w2
      unfold forLoop at w2
      cases hst : stands I.src s' with
      | false => rw [hst] at w2; simp only [Bool.false_eq_true, if_false] at w2; exact w2.elim
      | true =>
        rw [hst] at w2
        simp only [if_true] at w2
        exact .inl ⟨(wk' ι' H' s' _ x2 rs2 hst).2 (Nat.le_refl _), w2 ι' H' σ' x2 rs2 re2⟩⟩
theorem ps_while_ {x : Expr} {body : List Stmt} {fc : Env → Sto → R Bool} {fb : Env → Sto → Fl} {wf : Nat} (hp : PassesOwn (model X.prog X.w) X.A X.env X.xe) (hc : PT X x (tT g W fc)) (hb : PSs X body (tS g W fb)) :
    PS X (.While x body [] pos) (tS g W fun ρ s => whileLoop fc fb wf ρ s) :=
  PS.imp (ps_while hp hc hb) fun D σ H ⟨ι, ρ, s, re, rs, w⟩ => by
    refine ⟨fun m σ' H' => ∃ ι' ρ' s', Ext ι H ι' H' ∧ RS g ι' s' H' ∧ RE g ι' H' ρ' σ' ∧ WpS g W D ι H (whileLoop fc fb m ρ' s'), ⟨wf, ι, ρ, s, Ext.refl, rs, re, w⟩, ?_⟩
    rintro m σ' H' ⟨ι', ρ', s', x2, rs2, re2, w2⟩
    cases m with
    | zero => exact w2.elim
    | succ m =>
      unfold whileLoop at w2
      refine ⟨ι', ρ', s', re2, rs2, WpS.stepAt (RA := rlB) w2 x2 re2 rs2 fun b s3 ι3 H3 b' _ x3 rs3 eb w3 => ?_⟩
      have eb' : b = b' := eb
      subst eb'
      have re3 := re2.ext rs2 x3
      have x23 := x2.trans x3
      cases b with
      | false =>
        simp only [Bool.false_eq_true, if_false] at w3 ⊢
        exact w3 ι3 H3 σ' x23 rs3 re3
      | true =>
        simp only [if_true] at w3 ⊢
        refine ⟨fun σ4 H4 => ∃ ι4 ρ4 s4, Ext ι H ι4 H4 ∧ RS g ι4 s4 H4 ∧ RE g ι4 H4 ρ4 σ4 ∧ WpS g W D ι H (whileLoop fc fb m ρ4 s4), fun σ4 H4 h4 => ⟨m, Nat.lt_succ_self m, h4⟩, ι3, ρ', s3, re3, rs3, ?_⟩
        cases hf : fb ρ' s3 with
        | nx ρ6 s6 =>
          rw [hf] at w3
          exact fun ι7 H7 σ7 x7 rs7 re7 => ⟨ι7, ρ6, s6, x23.trans x7, rs7, re7, w3⟩
        | ct ρ6 s6 =>
          rw [hf] at w3
          exact fun ι7 H7 σ7 x7 rs7 re7 => ⟨ι7, ρ6, s6, x23.trans x7, rs7, re7, w3⟩
        | rt t6 s6 => rw [hf] at w3; exact WpS.shift (m := .rt t6 s6) w3 x23
        | bk ρ6 s6 => rw [hf] at w3; exact WpS.shift (m := .nx ρ6 s6) w3 x23
        | ex ρ6 y6 s6 => rw [hf] at w3; exact WpS.shift (m := .ex ρ6 y6 s6) w3 x23
        | bad => rw [hf] at w3; exact w3.elim

/-! ### the checker -/
def swB (sc : Scope) (y : Str) (py : Pos) (x : Expr) (scope : Scope) : Bool :=
  sc.names.lookup y == some .local && py.line == x.pos.line && !(scope.names.any fun (n, k) => n == y && (k == .local || k == .cell))
def notComp : Expr → Bool
  | .ListComp .. => false
  | .SetComp .. => false
  | .DictComp .. => false
  | _ => true
def vName : Expr → Option (Str × Pos)
  | .Name x p => some (x, p)
  | _ => none
theorem vName_some {e : Expr} {r : Str × Pos} (h : vName e = some r) : e = .Name r.1 r.2 := by
  unfold vName at h
  split at h
  · cases h; rfl
  · cases h
/-- a target is no plain local name -/
def cellB (sc : Scope) (ts : List Expr) : Bool := ts.any fun t => match vName t with | some r => !(sc.names.lookup r.1 == some .local) | none => true
theorem fm_len {α β : Type} {f : α → Option β} : ∀ {l : List α}, (l.filterMap f).length ≤ l.length ∧ ((l.filterMap f).length = l.length → ∀ x ∈ l, (f x).isSome = true)
  | [] => ⟨by simp, fun _ x h => by cases h⟩
  | a :: l => by
    obtain ⟨h1, h2⟩ := fm_len (f := f) (l := l)
    cases e : f a with
    | none =>
      rw [List.filterMap_cons_none e]
      exact ⟨Nat.le_succ_of_le h1, fun h => by simp at h; omega⟩
    | some b =>
      rw [List.filterMap_cons_some e]
      refine ⟨by simp; exact h1, fun h x hx => ?_⟩
      rw [List.length_cons, List.length_cons] at h
      rcases List.mem_cons.mp hx with rfl | hx
      · rw [e]; rfl
      · exact h2 (Nat.succ.inj h) x hx
theorem gen_tup {env : PySem.Env} {ts vs : List Expr} {k k2 : Nat} {p p2 : Pos} (h : cellB env.scope ts = true) : swappedStores [.Tuple ts k p] (.Tuple vs k2 p2) env = pure none := by
  unfold swappedStores
  simp only []
  split
  · rfl
  · split
    · rfl
    · split
      · rfl
      · rename_i hn
        exfalso
        simp only [Bool.or_eq_true, bne_iff_ne, ne_eq, not_or, Decidable.not_not] at hn
        have hl := hn.1
        have all := (fm_len).2 hl
        unfold cellB at h
        obtain ⟨t, ht, hx⟩ := List.any_eq_true.mp h
        have z := all t ht
        cases t with
        | Name id pos =>
          simp only [vName] at hx
          have hx' : (env.scope.names.lookup id == some .local) = false := by simpa using hx
          have k0 : (env.kindOf id == some NameKind.local) = false := hx'
          simp [k0] at z
        | _ => simp at z
theorem gen_tup2 {env : PySem.Env} {ts vs : List Expr} {k k2 : Nat} {p p2 : Pos} (h : vs.all (foldedForSure 8) = true) : swappedStores [.Tuple ts k p] (.Tuple vs k2 p2) env = pure none := by
  unfold swappedStores
  simp only []
  split
  · rfl
  · split
    · rfl
    · split
      · rfl
      · first | rfl | rw [if_pos h]
/-- a store that goes target by target -/
def genAsg (sc : Scope) (tg x : Expr) : Bool :=
  match x with
  | .ListComp _ _ scope _ => (match tg with | .Name y py => !swB sc y py x scope | _ => true)
  | .SetComp .. => false
  | .DictComp .. => false
  | .Tuple vs _ _ => (match tg with | .Tuple ts _ _ => cellB sc ts || vs.all (foldedForSure 8) | .List .. => false | _ => true)
  | _ => true
theorem gen_ok {env : PySem.Env} {tg x : Expr} (hk : env.scope.kind = .function) (h : genAsg env.scope tg x = true) (line : Nat) : swapsWithSole [tg] x line env = pure false ∧ swappedStores [tg] x env = pure none := by
  have kb : env.blockKind = .function := by unfold PySem.Env.blockKind; rw [hk]; rfl
  cases x <;> first
    | (exfalso; simp [genAsg] at h; done)
    | (refine ⟨by rfl, ?_⟩; cases tg <;> rfl)
    | (refine ⟨by rfl, ?_⟩; cases tg <;> first | rfl | (simp [genAsg] at h; done) | exact (Bool.or_eq_true_iff.mp (show (cellB env.scope _ || _) = true from h)).elim gen_tup gen_tup2)
    | (refine ⟨?_, by cases tg <;> rfl⟩
       cases tg <;> first
         | rfl
         | (rename_i elt gens scope p y py
            have h' : swB env.scope y py (.ListComp elt gens scope p) scope = false := by simpa [genAsg] using h
            have hb : (PySem.Env.blockKind env == PySem.ScopeKind.function) = true := by rw [kb]; rfl
            show (pure (env.blockKind == .function && env.kindOf y == some .local && py.line == _ && !(scope.names.any fun (n, k) => n == y && (k == .local || k == .cell))) : Sem Bool) = pure false
            rw [hb, Bool.true_and]
            exact congrArg pure h'))
/-- both sides written as pairs of names and values -/
def parB (sc : Scope) (x y : Str) (px py : Pos) (a b : Expr) : Bool :=
  sc.names.lookup x == some .local && sc.names.lookup y == some .local && py.line == px.line && !decide (x = y) && notStar a && notStar b && !(foldedForSure 8 a && foldedForSure 8 b) && !(constantsAlone 8 a && constantsAlone 8 b)
theorem par_ok {env : PySem.Env} {x y : Str} {px py pt : Pos} {kt k2 : Nat} {pt2 : Pos} {a b : Expr} (hk : env.scope.kind = .function) (h : parB env.scope x y px py a b = true) :
    swappedStores [.Tuple [.Name x px, .Name y py] kt pt] (.Tuple [a, b] k2 pt2) env = pure (some [x, y]) := by
  have kb : env.blockKind = .function := by unfold PySem.Env.blockKind; rw [hk]; rfl
  unfold parB at h
  simp only [Bool.and_eq_true, Bool.not_eq_true', decide_eq_false_iff_not, beq_iff_eq] at h
  obtain ⟨⟨⟨⟨⟨⟨⟨h1, h2⟩, h3⟩, h4⟩, h5⟩, h6⟩, h7⟩, h8⟩ := h
  have k1 : (env.kindOf x == some .local) = true := by rw [beq_iff_eq]; exact h1
  have k2' : (env.kindOf y == some .local) = true := by rw [beq_iff_eq]; exact h2
  have st : ([a, b].any fun | .Starred .. => true | _ => false) = false := by
    cases a <;> cases b <;> first | rfl | (simp [notStar] at h5; done) | (simp [notStar] at h6; done)
  have pl : (px.line == px.line) = true := by simp
  have pl2 : (py.line == px.line) = true := by simp [h3]
  have h4' : ¬ y = x := fun e => h4 e.symm
  have hp : (Expr.Name x px).pos = px := rfl
  unfold swappedStores
  simp only [kb, st, List.length_cons, List.length_nil, List.head?_cons, Option.map_some, Option.getD_some, List.filterMap_cons, List.filterMap_nil, hp, k1, k2', pl, pl2, Bool.and_self, if_true, List.all_cons, List.all_nil, Bool.and_true, h7, h8]
  refine (if_neg (by decide)).trans ((if_neg ?_).trans ((if_neg ?_).trans ?_))
  · intro hh
    cases a <;> cases b <;> first | (simp at hh; done) | (simp [notStar] at h5; done) | (simp [notStar] at h6; done)
  · have e : [x, y].eraseDups = [x, y] := by
      rw [List.eraseDups_cons]
      have e2 : [y].eraseDups = [y] := by rw [List.eraseDups_cons]; rfl
      simp [h4', e2]
    rw [e]
    simp
  · rfl

/-- three at once -/
def par3B (sc : Scope) (x y z : Str) (px py pz : Pos) (a b c : Expr) : Bool :=
  sc.names.lookup x == some .local && sc.names.lookup y == some .local && sc.names.lookup z == some .local && py.line == px.line && pz.line == px.line && !decide (x = y) && !decide (x = z) && !decide (y = z) && notStar a && notStar b && notStar c
    && !(foldedForSure 8 a && (foldedForSure 8 b && foldedForSure 8 c)) && !(constantsAlone 8 a && (constantsAlone 8 b && constantsAlone 8 c))
theorem par3_ok {env : PySem.Env} {x y z : Str} {px py pz pt : Pos} {kt k2 : Nat} {pt2 : Pos} {a b c : Expr} (hk : env.scope.kind = .function) (h : par3B env.scope x y z px py pz a b c = true) :
    swappedStores [.Tuple [.Name x px, .Name y py, .Name z pz] kt pt] (.Tuple [a, b, c] k2 pt2) env = pure (some [x, y, z]) := by
  have kb : env.blockKind = .function := by unfold PySem.Env.blockKind; rw [hk]; rfl
  unfold par3B at h
  simp only [Bool.and_eq_true, Bool.not_eq_true', decide_eq_false_iff_not, beq_iff_eq] at h
  obtain ⟨⟨⟨⟨⟨⟨⟨⟨⟨⟨⟨⟨h1, h2⟩, h3⟩, h4⟩, h5⟩, h6⟩, h7⟩, h8⟩, n1⟩, n2⟩, n3⟩, f1⟩, f2⟩ := h
  have k1 : (env.kindOf x == some .local) = true := by rw [beq_iff_eq]; exact h1
  have k2' : (env.kindOf y == some .local) = true := by rw [beq_iff_eq]; exact h2
  have k3 : (env.kindOf z == some .local) = true := by rw [beq_iff_eq]; exact h3
  have pl : (px.line == px.line) = true := by simp
  have pl2 : (py.line == px.line) = true := by simp [h4]
  have pl3 : (pz.line == px.line) = true := by simp [h5]
  have d1 : ¬ y = x := fun e => h6 e.symm
  have d2 : ¬ z = x := fun e => h7 e.symm
  have d3 : ¬ z = y := fun e => h8 e.symm
  have hp : (Expr.Name x px).pos = px := rfl
  unfold swappedStores
  simp only [kb, List.length_cons, List.length_nil, List.head?_cons, Option.map_some, Option.getD_some, List.filterMap_cons, List.filterMap_nil, hp, k1, k2', k3, pl, pl2, pl3, Bool.and_self, if_true, List.all_cons, List.all_nil, Bool.and_true, f1, f2]
  refine (if_neg (by decide)).trans ((if_neg ?_).trans ((if_neg ?_).trans ?_))
  · intro hh
    have nn : ∀ e ∈ [a, b, c], notStar e = true := fun e he => by
      simp only [List.mem_cons, List.not_mem_nil, or_false] at he
      rcases he with rfl | rfl | rfl
      · exact n1
      · exact n2
      · exact n3
    simp only [Bool.or_eq_true, List.any_eq_true] at hh
    have key : ∀ e, e ∈ [a, b, c] → (match e with | .Starred .. => true | _ => false) = true → False := fun e he hf => by
      have z := nn e he
      cases e <;> first | (cases hf; done) | (simp [notStar] at z)
    obtain ⟨e, he, hf⟩ := hh
    exact key e he hf
  · have e : [x, y, z].eraseDups = [x, y, z] := by
      rw [List.eraseDups_cons]
      have e2 : [y, z].eraseDups = [y, z] := by
        rw [List.eraseDups_cons]
        have e3 : [z].eraseDups = [z] := by rw [List.eraseDups_cons]; rfl
        simp [d3, e3]
      simp [d1, d2, e2]
    rw [e]
    simp
  · rfl

/-! views of statements and expressions -/
def vAssign1 : Stmt → Option (Expr × Expr × Pos)
  | .Assign [tg] x p => some (tg, x, p)
  | _ => none
theorem vAssign1_some {st : Stmt} {r : Expr × Expr × Pos} (h : vAssign1 st = some r) : st = .Assign [r.1] r.2.1 r.2.2 := by
  unfold vAssign1 at h
  split at h
  · cases h; rfl
  · cases h
def vLc : Expr → Option (Expr × Expr × Expr × List Expr × Scope × Pos)
  | .ListComp elt [⟨t, i, ifs, 0⟩] scope p => some (elt, t, i, ifs, scope, p)
  | _ => none
theorem vLc_some {e : Expr} {r : Expr × Expr × Expr × List Expr × Scope × Pos} (h : vLc e = some r) : e = .ListComp r.1 [⟨r.2.1, r.2.2.1, r.2.2.2.1, 0⟩] r.2.2.2.2.1 r.2.2.2.2.2 := by
  unfold vLc at h
  split at h
  · cases h; rfl
  · cases h
def vTup2 : Expr → Option (Expr × Expr × Nat × Pos)
  | .Tuple [a, b] k p => some (a, b, k, p)
  | _ => none
theorem vTup2_some {e : Expr} {r : Expr × Expr × Nat × Pos} (h : vTup2 e = some r) : e = .Tuple [r.1, r.2.1] r.2.2.1 r.2.2.2 := by
  unfold vTup2 at h
  split at h
  · cases h; rfl
  · cases h
def vTup3 : Expr → Option (Expr × Expr × Expr × Nat × Pos)
  | .Tuple [a, b, c] k p => some (a, b, c, k, p)
  | _ => none
theorem vTup3_some {e : Expr} {r : Expr × Expr × Expr × Nat × Pos} (h : vTup3 e = some r) : e = .Tuple [r.1, r.2.1, r.2.2.1] r.2.2.2.1 r.2.2.2.2 := by
  unfold vTup3 at h
  split at h
  · cases h; rfl
  · cases h
def nmB (N : List Str) (i : Nat) (r : Option (Str × Pos)) : Bool := match r with | some x => decide (N[i]? = some x.1) | none => false
theorem nmB_ok {N : List Str} {i : Nat} {e : Expr} (h : nmB N i (vName e) = true) : ∃ x p, e = .Name x p ∧ N[i]? = some x := by
  unfold nmB at h
  split at h
  · rename_i x hx
    exact ⟨_, _, vName_some hx, of_decide_eq_true h⟩
  · cases h
def par3X (sc : Scope) (x y z : Option (Str × Pos)) (a b c : Expr) : Bool := match x, y, z with | some x, some y, some z => par3B sc x.1 y.1 z.1 x.2 y.2 z.2 a b c | _, _, _ => false
def vAttr : Expr → Option (Expr × Str × Pos)
  | .Attribute o f p => some (o, f, p)
  | _ => none
theorem vAttr_some {e : Expr} {r : Expr × Str × Pos} (h : vAttr e = some r) : e = .Attribute r.1 r.2.1 r.2.2 := by
  unfold vAttr at h
  split at h
  · cases h; rfl
  · cases h
def vSub : Expr → Option (Expr × Expr × Pos)
  | .Subscript a b p => some (a, b, p)
  | _ => none
theorem vSub_some {e : Expr} {r : Expr × Expr × Pos} (h : vSub e = some r) : e = .Subscript r.1 r.2.1 r.2.2 := by
  unfold vSub at h
  split at h
  · cases h; rfl
  · cases h
def vRaise : Stmt → Option (Str × Pos × Expr × Pos × Pos)
  | .Raise (some (.Call (.Name c p) [e] [] q)) none r => some (c, p, e, q, r)
  | _ => none
theorem vRaise_some {st : Stmt} {r : Str × Pos × Expr × Pos × Pos} (h : vRaise st = some r) : st = .Raise (some (.Call (.Name r.1 r.2.1) [r.2.2.1] [] r.2.2.2.1)) none r.2.2.2.2 := by
  unfold vRaise at h
  split at h
  · cases h; rfl
  · cases h
def addSub : Bop → Bool
  | .add => true
  | .sub => true
  | _ => false
/-! the list of lambdas -/
def vLam : Expr → Option LamT
  | .Lambda ps b sc p => some ⟨ps, b, sc, p⟩
  | _ => none
theorem vLam_some {e : Expr} {l : LamT} (h : vLam e = some l) : e = l.ex := by
  unfold vLam at h
  split at h
  · cases h; rfl
  · cases h
def vLams : List Expr → Option (List LamT)
  | [] => some []
  | e :: es => (vLam e).bind fun l => (vLams es).map fun ls => l :: ls
theorem vLams_some : ∀ {es : List Expr} {ls : List LamT}, vLams es = some ls → es = ls.map LamT.ex
  | [], ls, h => by
    simp [vLams] at h
    subst h; rfl
  | e :: es, ls, h => by
    simp only [vLams, Option.bind_eq_some_iff, Option.map_eq_some_iff] at h
    obtain ⟨l, h1, ls', h2, rfl⟩ := h
    rw [List.map_cons, ← vLam_some h1, ← vLams_some h2]
def vLst : Expr → Option (List Expr × Pos)
  | .List xs p => some (xs, p)
  | _ => none
theorem vLst_some {e : Expr} {r : List Expr × Pos} (h : vLst e = some r) : e = .List r.1 r.2 := by
  unfold vLst at h
  split at h
  · cases h; rfl
  · cases h
def vAddL : Expr → Option (Expr × Expr × Pos)
  | .BinOp a .Add b p => some (a, b, p)
  | _ => none
theorem vAddL_some {e : Expr} {r : Expr × Expr × Pos} (h : vAddL e = some r) : e = .BinOp r.1 .Add r.2.1 r.2.2 := by
  unfold vAddL at h
  split at h
  · cases h; rfl
  · cases h
def vRetAll : Stmt → Option (Expr × Expr × Pos × Pos)
  | .Return (some (.Call a [b] [] p)) q => some (a, b, p, q)
  | _ => none
theorem vRetAll_some {s : Stmt} {r : Expr × Expr × Pos × Pos} (h : vRetAll s = some r) : s = .Return (some (.Call r.1 [r.2.1] [] r.2.2.1)) r.2.2.2 := by
  unfold vRetAll at h
  split at h
  · cases h; rfl
  · cases h
def vEqS : Expr → Option (Expr × Str × Nat × Pos × Pos)
  | .Compare a [.Eq] [.Constant (.str w) j p] q => some (a, w, j, p, q)
  | _ => none
theorem vEqS_some {e : Expr} {r : Expr × Str × Nat × Pos × Pos} (h : vEqS e = some r) : e = .Compare r.1 [.Eq] [.Constant (.str r.2.1) r.2.2.1 r.2.2.2.1] r.2.2.2.2 := by
  unfold vEqS at h
  split at h
  · cases h; rfl
  · cases h
def vCall1 : Expr → Option (Expr × Expr × Pos)
  | .Call f [a] [] p => some (f, a, p)
  | _ => none
theorem vCall1_some {e : Expr} {r : Expr × Expr × Pos} (h : vCall1 e = some r) : e = .Call r.1 [r.2.1] [] r.2.2 := by
  unfold vCall1 at h
  split at h
  · cases h; rfl
  · cases h
structure WkT where
  n1 : Str
  n2 : Str
  f : Str
  w : Str
  ls1 : List LamT
  ls2 : List LamT
  scope : Scope
  jj : Nat
  p : Nat → Pos
def WkT.st (r : WkT) : List Stmt :=
  [.Assign [.Name r.n1 (r.p 1)] (.List (r.ls1.map LamT.ex) (r.p 2)) (r.p 3), .Assign [.Name r.n1 (r.p 4)] (.BinOp (.Name r.n1 (r.p 5)) .Add (.List (r.ls2.map LamT.ex) (r.p 6)) (r.p 7)) (r.p 8),
    .Return (some (.Call (.Name "all" (r.p 9)) [.ListComp (.Compare (.Call (.Name r.f (r.p 10)) [.Name r.n2 (r.p 11)] [] (r.p 12)) [.Eq] [.Constant (.str r.w) r.jj (r.p 13)] (r.p 14)) [⟨.Name r.n2 (r.p 15), .Name r.n1 (r.p 16), [], 0⟩] r.scope (r.p 17)] [] (r.p 18))) (r.p 19)]
def vWk : List Stmt → Option WkT
  | [s1, s2, s3] =>
    (vAssign1 s1).bind fun a1 => (vName a1.1).bind fun x1 => (vLst a1.2.1).bind fun y1 => (vLams y1.1).bind fun ls1 =>
    (vAssign1 s2).bind fun a2 => (vName a2.1).bind fun x2 => (vAddL a2.2.1).bind fun z2 => (vName z2.1).bind fun w2 => (vLst z2.2.1).bind fun y2 => (vLams y2.1).bind fun ls2 =>
    (vRetAll s3).bind fun r3 => (vName r3.1).bind fun al => (vLc r3.2.1).bind fun lc => (vEqS lc.1).bind fun q => (vCall1 q.1).bind fun cl => (vName cl.1).bind fun f => (vName cl.2.1).bind fun k1 => (vName lc.2.1).bind fun k2 => (vName lc.2.2.1).bind fun w3 =>
    if x2.1 = x1.1 ∧ w2.1 = x1.1 ∧ w3.1 = x1.1 ∧ k2.1 = k1.1 ∧ al.1 = "all" ∧ lc.2.2.2.1.isEmpty = true then
      some ⟨x1.1, k1.1, f.1, q.2.1, ls1, ls2, lc.2.2.2.2.1, q.2.2.1, fun n => match n with
        | 1 => x1.2 | 2 => y1.2 | 3 => a1.2.2 | 4 => x2.2 | 5 => w2.2 | 6 => y2.2 | 7 => z2.2.2 | 8 => a2.2.2 | 9 => al.2 | 10 => f.2 | 11 => k1.2 | 12 => cl.2.2 | 13 => q.2.2.2.1 | 14 => q.2.2.2.2 | 15 => k2.2 | 16 => w3.2 | 17 => lc.2.2.2.2.2 | 18 => r3.2.2.1 | _ => r3.2.2.2⟩
    else none
  | _ => none
theorem vWk_some {st : List Stmt} {r : WkT} (h : vWk st = some r) : st = r.st := by
  unfold vWk at h
  split at h
  · simp only [Option.bind_eq_some_iff] at h
    obtain ⟨a1, h1, x1, h2, y1, h3, ls1, h4, a2, h5, x2, h6, z2, h7, w2, h8, y2, h9, ls2, h10, r3, h11, al, h12, lc, h13, q, h14, cl, h15, f, h16, k1, h17, k2, h18, w3, h19, h⟩ := h
    split at h
    · rename_i hh
      obtain ⟨e1, e2, e3, e4, e5, e6⟩ := hh
      cases h
      have v1 := vAssign1_some h1
      have v2 := vAssign1_some h5
      have v3 := vRetAll_some h11
      rw [vName_some h2, vLst_some h3, vLams_some h4] at v1
      rw [vName_some h6, vAddL_some h7, vName_some h8, vLst_some h9, vLams_some h10, e1, e2] at v2
      rw [vName_some h12, vLc_some h13, vEqS_some h14, vCall1_some h15, vName_some h16, vName_some h17, vName_some h18, vName_some h19, e3, e4, e5, List.isEmpty_iff.mp e6] at v3
      rw [v1, v2, v3]
      rfl
    · cases h
  · cases h
/-- lambdas and what they tell -/
def ckLams (tb : Tab) (sc : Scope) (N : List Str) : Es → List LamT → Bool
  | .nil, [] => true
  | .cons e es, l :: ls => noPar l.params && LamX.lamSB sc l.scope && ckE tb.off l.scope (fun _ => false) N e l.body && ckLams tb sc N es ls
  | _, _ => false
mutual
def ckS (tb : Tab) (sc : Scope) (fb : Str → Bool) (N : List Str) : S → Stmt → Bool
  | .asg t e, st => (match vAssign1 st with
    | some r => ckE tb sc fb N e r.2.1 && genAsg sc r.1 r.2.1 && ckT sc fb N t r.1
    | none => false)
  | .asgLc i own tg it c e, st => (match vAssign1 st with
    | some r => (match vName r.1 with
      | some n => (match vLc r.2.1 with
        | some l => ckE tb sc fb N (.lc own tg it c e) r.2.1 && swB sc n.1 n.2 r.2.1 l.2.2.2.2.1 && decide (N[i]? = some n.1)
        | none => false)
      | none => false)
    | none => false)
  | .asgLcF i own tg it c e, st => (match vAssign1 st with
    | some r => (match vName r.1 with
      | some n => (match vLc r.2.1 with
        | some l => ckE tb sc fb N (.lc own tg it c e) r.2.1 && swB sc n.1 n.2 r.2.1 l.2.2.2.2.1 && decide (N[i]? = some n.1)
        | none => false)
      | none => false)
    | none => false)
  | .par2 i j a b, st => (match vAssign1 st with
    | some r => (match vTup2 r.1 with
      | some l => (match vName l.1 with
        | some x => (match vName l.2.1 with
          | some y => (match vTup2 r.2.1 with
            | some q => decide (N[i]? = some x.1) && decide (N[j]? = some y.1) && parB sc x.1 y.1 x.2 y.2 q.1 q.2.1 && ckE tb sc fb N a q.1 && ckE tb sc fb N b q.2.1
            | none => false)
          | none => false)
        | none => false)
      | none => false)
    | none => false)
  | .par3 i j l a b c, st => (match vAssign1 st with
    | some r => (match vTup3 r.1 with
      | some t => (match vTup3 r.2.1 with
        | some q => nmB N i (vName t.1) && nmB N j (vName t.2.1) && nmB N l (vName t.2.2.1) && par3X sc (vName t.1) (vName t.2.1) (vName t.2.2.1) q.1 q.2.1 q.2.2.1 && ckEs tb sc fb N (.cons a (.cons b (.cons c .nil))) [q.1, q.2.1, q.2.2.1]
        | none => false)
      | none => false)
    | none => false)
  | .aug i op e, st => (match st with
    | .AugAssign t o v _ => (match vName t with
      | some x => decide (N[i]? = some x.1) && locB sc fb x.1 && opB op o && addSub op && ckE tb sc fb N e v
      | none => false)
    | _ => false)
  | .put o i e, st => (match vAssign1 st with
    | some r => (match vSub r.1 with
      | some l => ckE tb sc fb N o l.1 && ckE tb sc fb N i l.2.1 && ckE tb sc fb N e r.2.1 && notComp r.2.1
      | none => false)
    | none => false)
  | .putT o k e, st => (match vAssign1 st with
    | some r => (match vSub r.1 with
      | some l => (match vTupP l.2.1 with
        | some q => ckE tb sc fb N o l.1 && ckEs tb sc fb N k q.1 && ckE tb sc fb N e r.2.1 && notComp r.2.1
        | none => false)
      | none => false)
    | none => false)
  | .sat c o f e, st => (match vAssign1 st with
    | some r => (match vAttr r.1 with
      | some l => decide (f = l.2.1) && tb.nf c f && ckE tb sc fb N o l.1 && ckE tb sc fb N e r.2.1 && notComp r.2.1
      | none => false)
    | none => false)
  | .ite c a b, st => (match st with | .If x u v _ => ckE tb sc fb N c x && ckSs tb sc fb N a u && ckSs tb sc fb N b v | _ => false)
  | .for_ t it b, st => (match st with | .For tg x body o _ => ckT sc fb N t tg && ckIt tb sc fb N it tg x && ckSs tb sc fb N b body && o.isEmpty | _ => false)
  | .while_ c b, st => (match st with | .While x body o _ => ckE tb sc fb N c x && ckSs tb sc fb N b body && o.isEmpty | _ => false)
  | .ret e, st => (match st with | .Return o _ => (match o with | some x => ckE tb sc fb N e x | none => false) | _ => false)
  | .raise c es, st => (match vRaise st with
    | some r => decide (c = r.1) && glB sc r.1 && okNm r.1 && tb.xc c && ckEs tb sc fb N es [r.2.2.1]
    | none => false)
  | .ret0, st => (match st with | .Return o _ => o.isNone | _ => false)
  | .expr e, st => (match st with | .Expr x _ => ckE tb sc fb N e x && notComp x | _ => false)
  | .brk, st => (match st with | .Break _ => true | _ => false)
  | .cont, st => (match st with | .Continue _ => true | _ => false)
  | .pass, st => (match st with | .Pass _ => true | _ => false)
def ckSs (tb : Tab) (sc : Scope) (fb : Str → Bool) (N : List Str) : Ss → List Stmt → Bool
  | .nil, st => st.isEmpty
  | .cons s r, st => (match st with | x :: xs => ckS tb sc fb N s x && ckSs tb sc fb N r xs | [] => false)
  | .wk f c w iw ik es, st => (match vWk st with
    | some r => decide (f = r.f) && decide (w = r.w) && tb.lam && decide (tb.hd2 f = some c) && decide (N[iw]? = some r.n1) && locB sc fb r.n1 && okNm r.n1 && decide (N[ik]? = some r.n2) && blkC N sc r.scope [(r.n2, ik)] && locB (relS r.scope sc) (fbOf r.scope) r.n2 && okNm r.n2 &&
      glB (relS r.scope sc) f && glB sc "all" && decide (r.ls1.length + r.ls2.length ≤ 100000) && ckLams tb sc N es (r.ls1 ++ r.ls2)
    | none => false)
end
theorem noswap {x : Expr} (h : notComp x = true) (t : Option Expr) (line : Nat) (env : PySem.Env) : swapsWith x t line env = pure false := by
  cases x <;> first | rfl | (simp [notComp] at h)
theorem noswapS {x : Expr} (h : notComp x = true) (t : Expr) (line : Nat) (env : PySem.Env) : swapsWithSole [t] x line env = pure false := by
  cases x <;> first | rfl | (simp [notComp] at h)
theorem swap_ok {env : PySem.Env} {y : Str} {py p : Pos} {elt : Expr} {gens : List Comprehension} {scope : Scope} (hk : env.scope.kind = .function) (h : swB env.scope y py (.ListComp elt gens scope p) scope = true) (line : Nat) :
    swapsWith (.ListComp elt gens scope p) (some (.Name y py)) line env = pure true ∧ env.scope.names.lookup y = some .local := by
  have kb : env.blockKind = .function := by unfold PySem.Env.blockKind; rw [hk]; rfl
  have hb : (PySem.Env.blockKind env == PySem.ScopeKind.function) = true := by rw [kb]; rfl
  constructor
  · show (pure (env.blockKind == .function && env.kindOf y == some .local && py.line == (Expr.ListComp elt gens scope p).pos.line && !(scope.names.any fun (n, k) => n == y && (k == .local || k == .cell))) : Sem Bool) = pure true
    rw [hb, Bool.true_and]
    exact congrArg pure h
  · unfold swB at h
    simp only [Bool.and_eq_true, beq_iff_eq] at h
    exact h.1.1
variable {tb : Tab} {wf k : Nat}
theorem pss_nil_ : PSs X [] (tS g W fun ρ s => .nx ρ s) := PSs.imp pss_nil fun D σ H ⟨ι, ρ, s, re, rs, w⟩ => w ι H σ Ext.refl rs re
theorem pss_cons_ {st : Stmt} {r : List Stmt} {f1 f2 : Env → Sto → Fl} (h1 : PS X st (tS g W f1)) (h2 : PSs X r (tS g W f2)) : PSs X (st :: r) (tS g W fun ρ s => (f1 ρ s).then fun ρ s => f2 ρ s) :=
  PSs.imp (pss_cons h1 h2) fun D σ H ⟨ι, ρ, s, re, rs, w⟩ => ⟨ι, ρ, s, re, rs, by
    dsimp only at w
    cases hf : f1 ρ s with
    | nx ρ' s' =>
      rw [hf] at w
      exact fun ι' H' σ' x rs' re' => ⟨ι', ρ', s', re', rs', WpS.shift (m := f2 ρ' s') w x⟩
    | rt t s' => rw [hf] at w; exact w
    | bk ρ' s' => rw [hf] at w; exact w
    | ct ρ' s' => rw [hf] at w; exact w
    | ex ρ' x s' => rw [hf] at w; exact w
    | bad => rw [hf] at w; exact w⟩
theorem lams_ok : ∀ {es : Es} {ls : List LamT}, CtxA g tb wf k W X → ckLams tb X.env.scope X.N es ls = true → Paired (LamOk g k X) ls (esL (run tb wf k) es)
  | .nil, [], _, _ => .nil
  | .cons e es, l :: ls, c, h => by
    simp only [ckLams, Bool.and_eq_true] at h
    obtain ⟨⟨⟨h1, h2⟩, h3⟩, h4⟩ := h
    have L := LamX.lamS_by h2
    refine .cons ⟨h1, L, fun A outer s H E f c' hr => ?_⟩ (lams_ok c h4)
    rw [← run_off]
    exact (okE tb.off e _ _ _ (c.lamb L.kind hr) h3).1
  | .nil, _ :: _, _, h => by simp [ckLams] at h
  | .cons _ _, [], _, h => by simp [ckLams] at h
theorem evSs_nil (cf : CallF) (wf : Nat) : evSs cf wf .nil = fun ρ s => .nx ρ s := by funext ρ s; rw [evSs.eq_def]
theorem evSs_cons (cf : CallF) (wf : Nat) (st : S) (r : Ss) : evSs cf wf (.cons st r) = fun ρ s => (evS cf wf st ρ s).then fun ρ s => evSs cf wf r ρ s := by funext ρ s; rw [evSs.eq_def]
mutual
theorem okS : ∀ (st : S) (x : Stmt) (W : WX) (X : Cx), CtxA g tb wf k W X → ckS tb X.env.scope X.fn X.N st x = true → PS X x (tS g W (evS (run tb wf k) wf st))
  | .asg t e, x, W, X, c, h => by
    unfold ckS at h
    split at h
    · rename_i r hr
      obtain rfl := vAssign1_some hr
      simp only [Bool.and_eq_true] at h
      obtain ⟨⟨he, hg⟩, ht⟩ := h
      obtain ⟨h1, h2⟩ := gen_ok (tg := r.1) c.kind hg r.2.2.line
      have ha : (assignEach [r.1] X.env).map (·.2) = [assign r.1 X.env] := by rw [ckT_star ht]; rfl
      exact ps_asg_ (okE _ e _ W X c he).1 (okT c.hK c.calm c.nd t _ ht) h1 h2 ha
    · cases h
  | .asgLc i own tg' it d e', x, W, X, c, h => by
    unfold ckS at h
    split at h
    · rename_i r hr
      obtain rfl := vAssign1_some hr
      split at h
      · rename_i n hn
        split at h
        · rename_i l hl
          have e1 := vName_some hn
          have e2 := vLc_some hl
          simp only [Bool.and_eq_true, decide_eq_true_eq] at h
          obtain ⟨⟨he, hw⟩, hx⟩ := h
          rw [e1, e2]
          rw [e2] at he hw
          obtain ⟨hsw, hloc⟩ := swap_ok c.kind hw r.2.2.line
          simp only [ckE, Bool.and_eq_true] at he
          obtain ⟨⟨⟨⟨⟨h1, h2⟩, h3⟩, h4⟩, h5⟩, h6⟩ := he
          have hsl : ∀ i ∈ tg'.slots, i ∈ own.map (·.2) := by simpa using h2
          exact ps_setLc_ c.hK c.calm c.nd hx hloc hsw (okIt _ it _ _ W X c h4).1 (blkOk_by h1) hsl (fun s H C cl fp => okT (X := X.blk s H l.2.2.2.2.1 (compEnvC l.2.2.2.2.1 cl C X.env) fp) c.hK c.calm c.nd tg' _ h3)
            (fun s H C cl fp => (by have z := okC tb.off d _ noW _ (c.blk s H l.2.2.2.2.1 C cl fp (blkOk_by h1).kind) h5; rw [run_off] at z; exact z)) (fun s H C cl fp => (by have z := (okE tb.off e' _ noW _ (c.blk s H l.2.2.2.2.1 C cl fp (blkOk_by h1).kind) h6).1; rw [run_off] at z; exact z)) (okIt _ it _ _ W X c h4).2
        · cases h
      · cases h
    · cases h
  | .asgLcF i own tg' it d e', x, W, X, c, h => by
    unfold ckS at h
    split at h
    · rename_i r hr
      obtain rfl := vAssign1_some hr
      split at h
      · rename_i n hn
        split at h
        · rename_i l hl
          have e1 := vName_some hn
          have e2 := vLc_some hl
          simp only [Bool.and_eq_true, decide_eq_true_eq] at h
          obtain ⟨⟨he, hw⟩, hx⟩ := h
          rw [e1, e2]
          rw [e2] at he hw
          obtain ⟨hsw, hloc⟩ := swap_ok c.kind hw r.2.2.line
          simp only [ckE, Bool.and_eq_true] at he
          obtain ⟨⟨⟨⟨⟨h1, h2⟩, h3⟩, h4⟩, h5⟩, h6⟩ := he
          have hsl : ∀ i ∈ tg'.slots, i ∈ own.map (·.2) := by simpa using h2
          exact ps_setLcF_ c.hK c.calm c.nd hx hloc hsw (okIt _ it _ _ W X c h4).1 (blkOk_by h1) hsl (fun s H C cl fp => okT (X := X.blk s H l.2.2.2.2.1 (compEnvC l.2.2.2.2.1 cl C X.env) fp) c.hK c.calm c.nd tg' _ h3)
            (fun s H C cl fp => (by have z := okC tb.off d _ noW _ (c.blk s H l.2.2.2.2.1 C cl fp (blkOk_by h1).kind) h5; rw [run_off] at z; exact z)) (fun s H C cl fp => (by have z := (okE tb.off e' _ noW _ (c.blk s H l.2.2.2.2.1 C cl fp (blkOk_by h1).kind) h6).1; rw [run_off] at z; exact z)) (okIt _ it _ _ W X c h4).2
        · cases h
      · cases h
    · cases h
  | .par2 i j a b, x, W, X, c, h => by
    unfold ckS at h
    split at h
    · rename_i r hr
      obtain rfl := vAssign1_some hr
      split at h
      · rename_i l hl
        split at h
        · rename_i x hx
          split at h
          · rename_i y hy
            split at h
            · rename_i q hq
              simp only [Bool.and_eq_true, decide_eq_true_eq] at h
              obtain ⟨⟨⟨⟨h1, h2⟩, h3⟩, h4⟩, h5⟩ := h
              have e1 := vTup2_some hl
              rw [vName_some hx, vName_some hy] at e1
              rw [e1, vTup2_some hq]
              have hp := par_ok (kt := l.2.2.1) (pt := l.2.2.2) (k2 := q.2.2.1) (pt2 := q.2.2.2) c.kind h3
              have hxy : x.1 ≠ y.1 ∧ X.env.scope.names.lookup x.1 = some .local ∧ X.env.scope.names.lookup y.1 = some .local := by
                unfold parB at h3
                simp only [Bool.and_eq_true, Bool.not_eq_true', decide_eq_false_iff_not, beq_iff_eq] at h3
                exact ⟨h3.1.1.1.1.2, h3.1.1.1.1.1.1.1, h3.1.1.1.1.1.1.2⟩
              have hij : i ≠ j := fun e => by
                subst e
                rw [h1] at h2
                exact hxy.1 (Option.some.inj h2)
              have su := star_of (ck_star h4) [q.2.1] X.env
              have sv := star_of (ck_star h5) [] X.env
              exact ps_par_ c.calm c.nd h1 h2 hij hxy.2.1 hxy.2.2 (pa_cons_ (okE _ a _ W X c h4).1 (pa_cons_ (okE _ b _ W X c h5).1 pa_nil_ sv) su) hp
            · cases h
          · cases h
        · cases h
      · cases h
    · cases h
  | .par3 i j l a b d, x, W, X, c, h => by
    unfold ckS at h
    split at h
    · rename_i r hr
      obtain rfl := vAssign1_some hr
      split at h
      · rename_i t ht
        split at h
        · rename_i q hq
          simp only [Bool.and_eq_true] at h
          obtain ⟨⟨⟨⟨h1, h2⟩, h3⟩, h4⟩, h5⟩ := h
          obtain ⟨x, px, ex, h1⟩ := nmB_ok h1
          obtain ⟨y, py, ey, h2⟩ := nmB_ok h2
          obtain ⟨z, pz, ez, h3⟩ := nmB_ok h3
          have e1 := vTup3_some ht
          rw [ex, ey, ez] at e1
          rw [ex, ey, ez] at h4
          have h4' : par3B X.env.scope x y z px py pz q.1 q.2.1 q.2.2.1 = true := h4
          rw [e1, vTup3_some hq]
          have hp := par3_ok (kt := t.2.2.2.1) (pt := t.2.2.2.2) (k2 := q.2.2.2.1) (pt2 := q.2.2.2.2) c.kind h4'
          unfold par3B at h4'
          simp only [Bool.and_eq_true, Bool.not_eq_true', decide_eq_false_iff_not, beq_iff_eq] at h4'
          obtain ⟨⟨⟨⟨⟨⟨⟨⟨⟨⟨⟨⟨l1, l2⟩, l3⟩, _⟩, _⟩, d1⟩, d2⟩, d3⟩, _⟩, _⟩, _⟩, _⟩, _⟩ := h4'
          have dd : ∀ {i j : Nat} {x y : Str}, X.N[i]? = some x → X.N[j]? = some y → x ≠ y → i ≠ j := fun {i j x y} p q n e => by
            subst e
            rw [p] at q
            exact n (Option.some.inj q)
          exact ps_par3_ c.calm c.nd h1 h2 h3 (dd h1 h2 d1) (dd h1 h3 d2) (dd h2 h3 d3) l1 l2 l3 (okEs _ _ [q.1, q.2.1, q.2.2.1] W X c h5).1 hp
        · cases h
      · cases h
    · cases h
  | .aug i op e, x, W, X, c, h => by
    unfold ckS at h
    split at h
    · split at h
      · rename_i x hx
        simp only [Bool.and_eq_true, decide_eq_true_eq] at h
        obtain ⟨⟨⟨⟨h1, h2⟩, h3⟩, h4⟩, h5⟩ := h
        obtain ⟨h6, h7⟩ := locB_ok h2
        rw [opB_ok h3, vName_some hx]
        exact ps_aug_ c.nd h1 h6 h7 (okE _ e _ W X c h5).1 (by cases op <;> first | exact .inl rfl | exact .inr rfl | cases h4)
      · cases h
    · cases h
  | .put o i e, x, W, X, c, h => by
    unfold ckS at h
    split at h
    · rename_i r hr
      obtain rfl := vAssign1_some hr
      split at h
      · rename_i l hl
        simp only [Bool.and_eq_true] at h
        obtain ⟨⟨⟨h1, h2⟩, h3⟩, h4⟩ := h
        rw [vSub_some hl]
        exact ps_put_ (by have := c.room.un; omega) (okE _ e _ W X c h3).1 (okE _ o _ W X c h1).1 (okE _ i _ W X c h2).1 (ck_star h2) (noswapS h4 _ _ _)
      · cases h
    · cases h
  | .putT o k e, x, W, X, c, h => by
    unfold ckS at h
    split at h
    · rename_i r hr
      obtain rfl := vAssign1_some hr
      split at h
      · rename_i l hl
        split at h
        · rename_i q hq
          simp only [Bool.and_eq_true] at h
          obtain ⟨⟨⟨h1, h2⟩, h3⟩, h4⟩ := h
          rw [vSub_some hl, vTupP_some hq]
          exact ps_putT_ (by have := c.room.un; omega) (okE _ e _ W X c h3).1 (okE _ o _ W X c h1).1 (okEs _ k _ W X c h2).1 (noswapS h4 _ _ _)
        · cases h
      · cases h
    · cases h
  | .sat cn o f e, x, W, X, c, h => by
    unfold ckS at h
    split at h
    · rename_i r hr
      obtain rfl := vAssign1_some hr
      split at h
      · rename_i l hl
        simp only [Bool.and_eq_true, decide_eq_true_eq] at h
        obtain ⟨⟨⟨⟨rfl, h1⟩, h2⟩, h3⟩, h4⟩ := h
        rw [vAttr_some hl]
        exact ps_sat_ c.hK (c.nfs _ _ h1) (okE _ e _ W X c h3).1 (okE _ o _ W X c h2).1 (noswap h4 _ _ _)
      · cases h
    · cases h
  | .ite d a b, x, W, X, c, h => by
    unfold ckS at h
    split at h
    · simp only [Bool.and_eq_true] at h
      obtain ⟨⟨h1, h2⟩, h3⟩ := h
      exact ps_if_ (okE _ d _ W X c h1).2 (okSs a _ W X c h2) (okSs b _ W X c h3)
    · cases h
  | .for_ t it b, x, W, X, c, h => by
    unfold ckS at h
    split at h
    · simp only [Bool.and_eq_true, List.isEmpty_iff] at h
      obtain ⟨⟨⟨h1, h2⟩, h3⟩, rfl⟩ := h
      obtain ⟨p1, p2⟩ := okIt _ it _ _ W X c h2
      exact ps_for_ c.po c.calm p1 (okT c.hK c.calm c.nd t _ h1) (okSs b _ W X c h3) p2
    · cases h
  | .while_ d b, x, W, X, c, h => by
    unfold ckS at h
    split at h
    · simp only [Bool.and_eq_true, List.isEmpty_iff] at h
      obtain ⟨⟨h1, h2⟩, rfl⟩ := h
      exact ps_while_ c.po (okE _ d _ W X c h1).2 (okSs b _ W X c h2)
    · cases h
  | .ret e, x, W, X, c, h => by
    unfold ckS at h
    split at h
    · split at h
      · exact ps_ret_ (okE _ e _ W X c h).1
      · cases h
    · cases h
  | .raise n es, x, W, X, c, h => by
    unfold ckS at h
    split at h
    · rename_i r hv
      have e1 := vRaise_some hv
      subst e1
      simp only [Bool.and_eq_true, decide_eq_true_eq] at h
      obtain ⟨⟨⟨⟨rfl, h2⟩, h3⟩, h4⟩, h5⟩ := h
      unfold okNm at h3
      simp only [Bool.and_eq_true, Bool.not_eq_true'] at h3
      obtain ⟨C, fI, fd, hm, hga, T, iC, tI, F1, hb⟩ := (c.xcs _ h4).ok
      have he : notStar r.2.2.1 = true := by
        cases es with
        | nil => simp [ckEs] at h5
        | cons e es =>
          simp only [ckEs, Bool.and_eq_true] at h5
          exact ck_star h5.1
      exact ps_raise_ c.calm c.hK c.tk T iC tI (c.hK ▸ F1) (c.room.mono (by omega)) (c.hK ▸ hb) hga (glB_ok h2) hm h3.1 (okEs _ es [r.2.2.1] W X c h5).1 he
    · cases h
  | .ret0, x, W, X, c, h => by
    unfold ckS at h
    split at h
    · simp only [Option.isNone_iff_eq_none] at h
      subst h
      exact ps_ret0_
    · cases h
  | .expr e, x, W, X, c, h => by
    unfold ckS at h
    split at h
    · simp only [Bool.and_eq_true] at h
      exact ps_expr_ (okE _ e _ W X c h.1).1 (noswap h.2 _ _ _)
    · cases h
  | .brk, x, W, X, c, h => by
    unfold ckS at h
    split at h
    · exact ps_brk_
    · cases h
  | .cont, x, W, X, c, h => by
    unfold ckS at h
    split at h
    · exact ps_cont_
    · cases h
  | .pass, x, W, X, c, h => by
    unfold ckS at h
    split at h
    · exact ps_pass_
    · cases h
theorem okSs : ∀ (st : Ss) (x : List Stmt) (W : WX) (X : Cx), CtxA g tb wf k W X → ckSs tb X.env.scope X.fn X.N st x = true → PSs X x (tS g W (evSs (run tb wf k) wf st))
  | .nil, x, W, X, c, h => by
    unfold ckSs at h
    rw [evSs_nil, List.isEmpty_iff.mp h]
    exact pss_nil_
  | .cons s r, x, W, X, c, h => by
    unfold ckSs at h
    split at h
    · simp only [Bool.and_eq_true] at h
      rw [evSs_cons]
      exact pss_cons_ (okS s _ W X c h.1) (okSs r _ W X c h.2)
    · cases h
  | .wk f cn w iw ik es, x, W, X, c, h => by
    unfold ckSs at h
    split at h
    · rename_i r hr
      obtain rfl := vWk_some hr
      simp only [Bool.and_eq_true, decide_eq_true_eq] at h
      obtain ⟨⟨⟨⟨⟨⟨⟨⟨⟨⟨⟨⟨⟨⟨rfl, rfl⟩, h3⟩, h4⟩, h5⟩, h6⟩, h7⟩, h8⟩, h9⟩, h10⟩, h11⟩, h12⟩, h13⟩, h14⟩, h15⟩ := h
      unfold okNm at h7 h11
      simp only [Bool.and_eq_true, Bool.not_eq_true'] at h7 h11
      have D := c.deep h3
      obtain ⟨l1, l2⟩ := locB_ok h6
      obtain ⟨l3, l4⟩ := locB_ok h10
      have e : evSs (run tb wf k) wf (.wk r.f cn r.w iw ik es) = fun ρ s => (wkF cn r.w (esL (run tb wf k) es) (ρ.set iw none) s).fl (ρ.set iw none) fun bs s => .rt (.v (.bl (bs.all id))) s := by funext ρ s; rw [evSs.eq_def]
      rw [e]
      exact pss_wk_ c.hK c.calm c.nd D (c.hds2 _ _ h4) D.stk D.frm h5 l1 l2 h7.1 h7.2 h8 (blkOk_by h9) l3 l4 h11.1 h11.2 h12 (glB_ok h13) (c.mgB .all) h14 (lams_ok c h15)
    · cases h
end
end
end Fy
end
section
set_option Elab.async false
set_option linter.all false
set_option maxRecDepth 100000
set_option maxHeartbeats 1000000
/-! FzR: behind a call: lists that were made in it are locked. -/
namespace Fy
open PySem PySem.Spec PyProof.Rows L2
/-- P holds once some things are locked -/
inductive LK (P : Hp → Prop) : Hp → Prop
  | done {H : Hp} : P H → LK P H
  | lock {H : Hp} {a : Addr} {u : HO} : H a = some u → Mut (some u) → (∀ od, LK P (L2.upd H a (.frz od u))) → LK P H
theorem LK.inv {X : Cx} {pins : List (Addr × Obj)} {σ : L2.St} {s : Shared} {P : Hp → Prop} {H : Hp} (h : LK P H) : Inv X pins σ H s → ∃ H', Inv X pins σ H' s ∧ P H' := by
  induction h with
  | done q => exact fun J => ⟨_, J, q⟩
  | lock e mu _ ih =>
    intro J
    obtain ⟨od, J'⟩ := J.lock e mu
    exact ih od J'
theorem pss_lk {X : Cx} {st : List Stmt} {t : TS} (h : PSs X st t) : PSs X st (fun D σ H => t { D with nx := fun σ' H' => LK (D.nx σ') H', rt := fun v H' => LK (D.rt v) H' } σ H) :=
  ⟨fun pins s σ H D I w => wpAny_mono (h.run pins s σ H _ I w) (fun f s' hq => by
    cases f with
    | next =>
      obtain ⟨σ', H', I', q⟩ := hq
      obtain ⟨H2, J, q2⟩ := LK.inv q I'
      exact ⟨σ', H2, J, q2⟩
    | brk => exact hq
    | cont => exact hq
    | ret u =>
      obtain ⟨v, σ', H', I', rv, q⟩ := hq
      obtain ⟨H2, J, q2⟩ := LK.inv q I'
      exact ⟨v, σ', H2, J, rv, q2⟩) fun _ _ hq => hq⟩
section
variable {g : Glo} {ι : List Addr} {H H1 H2 : Hp} {s : Sto} {n : Nat}
/-- some of the lists at n and further are locked, all else is as it was -/
def Lkd (ι : List Addr) (s : Sto) (n : Nat) (H H1 : Hp) : Prop := ∀ b, H1 b = H b ∨ ∃ m vs o, (n ≤ m ∧ ∃ xs, s[m]? = some (.lst xs)) ∧ ι[m]? = some b ∧ H b = some (.lst vs) ∧ H1 b = some (.frz o (.lst vs))
theorem Lkd.refl : Lkd ι s n H H := fun _ => .inl rfl
theorem Lkd.trans (a : Lkd ι s n H H1) (b : Lkd ι s n H1 H2) : Lkd ι s n H H2 := fun c => by
  rcases a c with e | ⟨m, vs, o, h1, h2, h3, h4⟩
  · rcases b c with e' | ⟨m, vs, o, h1, h2, h3, h4⟩
    · exact .inl (e'.trans e)
    · exact .inr ⟨m, vs, o, h1, h2, e ▸ h3, h4⟩
  · rcases b c with e' | ⟨m', vs', o', g1, g2, g3, g4⟩
    · exact .inr ⟨m, vs, o, h1, h2, h3, e'.trans h4⟩
    · rw [h4] at g3; cases g3
theorem Lkd.other (k : Lkd ι s n H H1) {b : Addr} {u : HO} (e : H b = some u) (hn : ∀ vs, u ≠ .lst vs) : H1 b = some u := by
  rcases k b with z | ⟨_, vs, _, _, _, h3, _⟩
  · exact z.trans e
  · rw [e] at h3
    exact absurd (Option.some.inj h3) (hn vs)
theorem Lkd.rd {κ : List Addr} (k : Lkd ι s n H H1) {d : Fy.D} {v : V} (r : RD g κ H d v) : RD g κ H1 d v :=
  r.imp (fun _ _ q => q) (fun a ws q => q.elim (fun q => .inl (k.other q fun _ z => by cases z)) fun ⟨o, q⟩ => .inr ⟨o, k.other q fun _ z => by cases z⟩) fun a o ws q => k.other q fun _ z => by cases z
theorem Lkd.rds {κ : List Addr} (k : Lkd ι s n H H1) {d : List Fy.D} {v : List V} (r : RDs g κ H d v) : RDs g κ H1 d v := RDs.of (fun q => k.rd q) r
/-- the lists at n and further, locked or not -/
def Loose (g : Glo) (ι : List Addr) (s : Sto) (n : Nat) (H : Hp) : Prop := ∀ m xs, n ≤ m → s[m]? = some (.lst xs) → ∃ a vs, ι[m]? = some a ∧ (H a = some (.lst vs) ∨ ∃ o, H a = some (.frz o (.lst vs))) ∧ RDs g ι H xs vs
theorem Loose.of (rs : RS g ι s H) : Loose g ι s n H := fun m xs _ e => by
  obtain ⟨a, ea, vs, h1, h2⟩ := rs.at_ m _ e
  exact ⟨a, vs, ea, .inl h1, h2⟩
theorem Loose.lkd (l : Loose g ι s n H) (k : Lkd ι s n H H1) : Loose g ι s n H1 := fun m xs hm e => by
  obtain ⟨a, vs, ea, h, r⟩ := l m xs hm e
  refine ⟨a, vs, ea, ?_, k.rds r⟩
  rcases h with h | ⟨o, h⟩
  · rcases k a with z | ⟨_, vs', o, _, _, h3, h4⟩
    · exact .inl (z.trans h)
    · rw [h] at h3; cases h3
      exact .inr ⟨o, h4⟩
  · exact .inr ⟨o, k.other h fun _ z => by cases z⟩
mutual
theorem RD.cut0 {n : Nat} {d : Fy.D} {v : V} (r : RD g ι H d v) (u : D.under n d = true) : RD g (ι.take n) H d v := by
  cases r with
  | non => exact .non
  | bl b => exact .bl b
  | int i => exact .int i
  | str x => exact .str x
  | ty x => exact .ty x
  | gl x => exact .gl x
  | tup h r => exact .tup h (r.cut0 (by simpa [D.under] using u))
  | fro h r => exact .fro h (r.cut0 (by simpa [D.under] using u))
  | loc h =>
    have hn := of_decide_eq_true (show decide (_ < n) = true by simpa [D.under] using u)
    exact .loc (by rw [List.getElem?_take_of_lt hn]; exact h)
theorem RDs.cut0 {n : Nat} {d : List Fy.D} {v : List V} (r : RDs g ι H d v) (u : D.unders n d = true) : RDs g (ι.take n) H d v := by
  cases r with
  | nil => exact .nil
  | @cons x v xs vs r t =>
    have u' : D.under n x = true ∧ D.unders n xs = true := by simpa [D.unders] using u
    exact .cons (r.cut0 u'.1) (t.cut0 u'.2)
end
/-- lock what is a list still -/
theorem lock_one {P : Hp → Prop} {m : Nat} {a : Addr} {vs : List V} (hm : n ≤ m ∧ ∃ xs, s[m]? = some (.lst xs)) (ea : ι[m]? = some a) (h : H a = some (.lst vs) ∨ ∃ o, H a = some (.frz o (.lst vs))) (q : ∀ H1 o, Lkd ι s n H H1 → H1 a = some (.frz o (.lst vs)) → LK P H1) : LK P H := by
  rcases h with h | ⟨o, h⟩
  · refine .lock h trivial fun od => q _ od (fun b => ?_) upd_same
    by_cases hb : b = a
    · subst hb
      exact .inr ⟨m, vs, od, hm, ea, h, upd_same⟩
    · exact .inl (upd_ne hb)
  · exact q H o .refl h
theorem reL_ok {f : Fy.D → Option Fy.D} (hf : ∀ (H : Hp) (d d' : Fy.D) (v : V) (P : Hp → Prop), Loose g ι s n H → RD g ι H d v → f d = some d' → (∀ H1, Lkd ι s n H H1 → RD g (ι.take n) H1 d' v → LK P H1) → LK P H)
    (tk : ∀ {H H1 : Hp}, Lkd ι s n H H1 → ∀ {d : Fy.D} {v : V}, RD g (ι.take n) H d v → RD g (ι.take n) H1 d v) : ∀ (xs ys : List Fy.D) (vs : List V) (H : Hp) (P : Hp → Prop), Loose g ι s n H → RDs g ι H xs vs → reL f xs = some ys → (∀ H1, Lkd ι s n H H1 → RDs g (ι.take n) H1 ys vs → LK P H1) → LK P H
  | [], ys, vs, H, P, l, r, e, q => by
    simp [reL] at e
    subst e
    cases r
    exact q H .refl .nil
  | x :: xs, ys, vs, H, P, l, r, e, q => by
    simp only [reL, Option.bind_eq_some_iff, Option.map_eq_some_iff] at e
    obtain ⟨y, e1, ys', e2, rfl⟩ := e
    cases r with
    | cons r t =>
      refine hf H x y _ P l r e1 fun H1 k1 r1 => ?_
      refine reL_ok hf tk xs ys' _ H1 P (l.lkd k1) (k1.rds t) e2 fun H2 k2 r2 => ?_
      exact q H2 (k1.trans k2) (.cons (tk k2 r1) r2)
theorem Lkd.rdt (k : Lkd ι s n H H1) {d : Fy.D} {v : V} (r : RD g (ι.take n) H d v) : RD g (ι.take n) H1 d v :=
  r.imp (fun _ _ q => q) (fun a ws q => q.elim (fun q => .inl (k.other q fun _ z => by cases z)) fun ⟨o, q⟩ => .inr ⟨o, k.other q fun _ z => by cases z⟩) fun a o ws q => k.other q fun _ z => by cases z
theorem reD_ok : ∀ (k : Nat) (H : Hp) (d d' : Fy.D) (v : V) (P : Hp → Prop), Loose g ι s n H → RD g ι H d v → reD n s k d = some d' → (∀ H1, Lkd ι s n H H1 → RD g (ι.take n) H1 d' v → LK P H1) → LK P H
  | 0, H, d, d', v, P, l, r, e, q => by
    unfold reD at e
    split at e
    · rename_i hu
      cases e
      exact q H .refl (r.cut0 hu)
    · cases e
  | k + 1, H, d, d', v, P, l, r, e, q => by
    unfold reD at e
    split at e
    · rename_i hu
      cases e
      exact q H .refl (r.cut0 hu)
    · split at e
      · simp only [Option.map_eq_some_iff] at e
        obtain ⟨ys, e1, rfl⟩ := e
        cases r with
        | tup h t =>
          refine reL_ok (reD_ok k) (fun k _ _ r => k.rdt r) _ ys _ H P l t e1 fun H1 k1 r1 => q H1 k1 (.tup (h.elim (fun z => .inl (z.elim (fun z => .inl (k1.other z fun _ y => by cases y)) fun ⟨o, z⟩ => .inr ⟨o, k1.other z fun _ y => by cases y⟩)) .inr) r1)
      · simp only [Option.map_eq_some_iff] at e
        obtain ⟨ys, e1, rfl⟩ := e
        cases r with
        | fro h t =>
          refine reL_ok (reD_ok k) (fun k _ _ r => k.rdt r) _ ys _ H P l t e1 fun H1 k1 r1 => q H1 k1 (.fro (h.elim (fun ⟨o, z⟩ => .inl ⟨o, k1.other z fun _ y => by cases y⟩) .inr) r1)
      · rename_i m hu
        split at e
        · rename_i xs hs
          simp only [Option.map_eq_some_iff] at e
          obtain ⟨ys, e1, rfl⟩ := e
          have hm : n ≤ m := by
            have z : ¬ (decide (m < n) = true) := by simpa [D.under] using hu
            simpa using z
          cases r with
          | @loc _ a ea =>
            obtain ⟨a', vs, ea', h, t⟩ := l m xs hm hs
            have eq : a' = a := by rw [ea] at ea'; exact (Option.some.inj ea').symm
            subst eq
            refine reL_ok (reD_ok k) (fun k _ _ r => k.rdt r) xs ys vs H P l t e1 fun H1 k1 r1 => ?_
            obtain ⟨a2, vs2, ea2, h2, _⟩ := (l.lkd k1) m xs hm hs
            have h3 : H1 a' = some (.lst vs) ∨ ∃ o, H1 a' = some (.frz o (.lst vs)) := by
              rcases h with h | ⟨o, h⟩
              · rcases k1 a' with z | ⟨_, vs', o, _, _, g3, g4⟩
                · exact .inl (z.trans h)
                · rw [h] at g3; cases g3
                  exact .inr ⟨o, g4⟩
              · exact .inr ⟨o, k1.other h fun _ z => by cases z⟩
            refine lock_one ⟨hm, xs, hs⟩ ea h3 fun H2 o k2 e2 => ?_
            exact q H2 (k1.trans k2) (.fro (.inl ⟨o, e2⟩) (RDs.of (fun z => k2.rdt z) r1))
        · cases e
      · cases e
variable {ι' : List Addr} {s' : Sto} {H0 H' : Hp}
theorem Lkd.apart (k : Lkd ι' s n H H1) (nd : ι'.Nodup) {j : Nat} {b : Addr} (e : ι'[j]? = some b) (h : j < n ∨ ∀ xs, s[j]? ≠ some (.lst xs)) : H1 b = H b := by
  rcases k b with z | ⟨m, vs, o, ⟨hm, xs, hs⟩, hb, _, _⟩
  · exact z
  · obtain ⟨l1, q1⟩ := List.getElem?_eq_some_iff.mp e
    obtain ⟨l2, q2⟩ := List.getElem?_eq_some_iff.mp hb
    have eq := (List.getElem_inj nd).mp (q1.trans q2.symm)
    subst eq
    rcases h with h | h
    · omega
    · exact absurd hs (h xs)
theorem Lkd.out (k : Lkd ι' s n H H1) {b : Addr} (h : b ∉ ι') : H1 b = H b := by
  rcases k b with z | ⟨m, vs, o, _, hb, _, _⟩
  · exact z
  · exact absurd (List.mem_of_getElem? hb) h
theorem Lkd.rs (k : Lkd ι' s n H H1) (nd : ι'.Nodup) {s0 : Sto} (rs : RS g (ι'.take n) s0 H) : RS g (ι'.take n) s0 H1 := by
  refine ⟨rs.nd, rs.len, fun m o e => ?_, fun p hp => ?_⟩
  · obtain ⟨a, ea, r⟩ := rs.at_ m o e
    refine ⟨a, ea, r.move ?_ fun q => k.rd q⟩
    have hm : m < n := by
      have := (List.getElem?_eq_some_iff.mp ea).1
      simp at this
      omega
    rw [List.getElem?_take_of_lt hm] at ea
    exact k.apart nd ea (.inl hm)
  · obtain ⟨ps, h1, h2, h3⟩ := rs.tb p hp
    refine ⟨ps, k.other h1 (fun _ z => by cases z), h2, fun pos cv hc => ?_⟩
    obtain ⟨c, e1, e2⟩ := h3 pos cv hc
    exact ⟨c, e1, k.other e2 (fun _ z => by unfold LamX.CodeO at z; cases z)⟩
theorem Lkd.ext (k : Lkd ι' s ι.length H' H1) (x : Ext ι H ι' H') (nd : ι'.Nodup) : Ext ι H ι H1 :=
  ⟨List.prefix_refl _, fun b o e nb hn => by
    have e1 := x.keep b o e nb hn
    rcases k b with z | ⟨m, vs, o', ⟨hm, _⟩, hb, _, _⟩
    · exact z.trans e1
    · have nb' : b ∈ ι' := List.mem_of_getElem? hb
      exact nn_no (x.new b nb' nb) e hn, fun _ m n => absurd m n⟩
end
end Fy
end
section
set_option Elab.async false
set_option linter.all false
set_option maxRecDepth 100000
set_option maxHeartbeats 1000000
/-! FyE: a def of the text keeps what the evaluator tells. -/
namespace Fy
open PySem PySem.Spec PyProof.Rows L2
section
variable {g : Glo} {ι ι' : List Addr} {H H' : Hp} {s s' : Sto}
mutual
theorem RD.cut {n : Nat} {d : D} {v : V} (r : RD g ι H d v) (u : D.under n d = true) : RD g (ι.take n) H d v := by
  cases r with
  | non => exact .non
  | bl b => exact .bl b
  | int i => exact .int i
  | str x => exact .str x
  | ty x => exact .ty x
  | gl x => exact .gl x
  | tup h r => exact .tup h (r.cut (by simpa [D.under] using u))
  | fro h r => exact .fro h (r.cut (by simpa [D.under] using u))
  | loc h =>
    have hn := of_decide_eq_true (show decide (_ < n) = true by simpa [D.under] using u)
    exact .loc (by rw [List.getElem?_take_of_lt hn]; exact h)
theorem RDs.cut {n : Nat} {d : List D} {v : List V} (r : RDs g ι H d v) (u : D.unders n d = true) : RDs g (ι.take n) H d v := by
  cases r with
  | nil => exact .nil
  | @cons x v xs vs r t =>
    have u' : D.under n x = true ∧ D.unders n xs = true := by simpa [D.unders] using u
    exact .cons (r.cut u'.1) (t.cut u'.2)
end
theorem RS.cut {n : Nat} (rs : RS g ι s H) (u : (s.take n).all (O.under n) = true) : RS g (ι.take n) (s.take n) H := by
  refine ⟨rs.nd.sublist (List.take_sublist _ _), by simp [rs.len], fun k o e => ?_, rs.tb⟩
  have hk : k < n := by
    have := (List.getElem?_eq_some_iff.mp e).1
    simp at this
    omega
  have uo : O.under n o = true := List.all_eq_true.mp u o (List.mem_of_getElem? e)
  rw [List.getElem?_take_of_lt hk] at e
  obtain ⟨a, ea, r⟩ := rs.at_ k o e
  refine ⟨a, by rw [List.getElem?_take_of_lt hk]; exact ea, ?_⟩
  cases o with
  | lst xs => obtain ⟨vs, e1, r1⟩ := r; exact ⟨vs, e1, r1.cut (by simpa [O.under] using uo)⟩
  | dic t kvs =>
    have go : ∀ {κ : Type} {c : κ → List Ky} {kvs : List (List Ky × D)} {vk : List (κ × V)}, RKV g ι H c kvs vk → (kvs.all fun kv => D.under n kv.2) = true → RKV g (ι.take n) H c kvs vk := by
      intro κ c kvs vk q
      induction q with
      | nil => intro _; exact .nil
      | @cons p q ps qs z t ih =>
        intro uo
        simp only [List.all_cons, Bool.and_eq_true] at uo
        exact .cons ⟨z.1, z.2.cut uo.1⟩ (ih uo.2)
    cases t <;> (obtain ⟨vk, e1, r1⟩ := r; exact ⟨vk, e1, go r1 (by simpa [O.under] using uo)⟩)
  | ins c fs =>
    obtain ⟨dx, vs, e1, r1, ci⟩ := r
    have go : ∀ {fs : List (Str × D)} {vs : List (Str × V)}, RF g ι H fs vs → (fs.all fun f => D.under n f.2) = true → RF g (ι.take n) H fs vs := by
      intro fs vs q
      induction q with
      | nil => intro _; exact .nil
      | @cons p q ps qs z t ih =>
        intro uo
        simp only [List.all_cons, Bool.and_eq_true] at uo
        exact .cons ⟨z.1, z.2.cut uo.1⟩ (ih uo.2)
    exact ⟨dx, vs, e1, go r1 (by simpa [O.under] using uo), ci⟩
theorem pre_take (h : ι <+: ι') : ι'.take ι.length = ι := by
  obtain ⟨t, rfl⟩ := h
  simp
theorem Ext.cut (x : Ext ι H ι' H') : Ext ι H ι H' := ⟨List.prefix_refl _, x.keep, fun _ m n => absurd m n⟩
mutual
/-- what stands leads into the store -/
theorem RD.undr {d : D} {v : V} (r : RD g ι H d v) : D.under ι.length d = true := by
  cases r with
  | tup h r => simpa [D.under] using r.undr
  | fro h r => simpa [D.under] using r.undr
  | loc h => simpa [D.under] using (List.getElem?_eq_some_iff.mp h).1
  | non => rfl
  | bl b => rfl
  | int i => rfl
  | str x => rfl
  | ty x => rfl
  | gl x => rfl
theorem RDs.undr {d : List D} {v : List V} (r : RDs g ι H d v) : D.unders ι.length d = true := by
  cases r with
  | nil => rfl
  | cons r t => simp [D.unders, r.undr, t.undr]
end
theorem RKV.undr {κ : Type} {c : κ → List Ky} : ∀ {kvs : List (List Ky × D)} {vk : List (κ × V)}, RKV g ι H c kvs vk → (kvs.all fun kv => D.under ι.length kv.2) = true
  | _, _, .nil => rfl
  | _, _, .cons z t => by
    rw [List.all_cons, z.2.undr, Bool.true_and]
    exact RKV.undr t
theorem RF.undr : ∀ {fs : List (Str × D)} {vs : List (Str × V)}, RF g ι H fs vs → (fs.all fun f => D.under ι.length f.2) = true
  | _, _, .nil => rfl
  | _, _, .cons z t => by
    rw [List.all_cons, z.2.undr, Bool.true_and]
    exact RF.undr t
theorem RO.undr {a : Addr} {o : O} (r : RO g ι H a o) : O.under ι.length o = true := by
  cases o with
  | lst xs => obtain ⟨vs, _, r⟩ := r; exact r.undr
  | dic t kvs => cases t <;> (obtain ⟨vk, _, r⟩ := r; exact r.undr)
  | ins c fs => obtain ⟨dx, vs, _, r, _⟩ := r; exact r.undr
theorem kept_all {n : Nat} : ∀ {s0 s : Sto}, keptB n s0 s = true → s0.all (O.under n) = true → (s.take s0.length).all (O.under n) = true ∧ s0.length ≤ s.length
  | [], s, _, _ => by simp
  | o :: os, [], h, _ => by simp [keptB] at h
  | o :: os, u :: us, h, h0 => by
    simp only [keptB, Bool.and_eq_true, Bool.or_eq_true, decide_eq_true_eq] at h
    rw [List.all_cons, Bool.and_eq_true] at h0
    obtain ⟨i1, i2⟩ := kept_all h.2 h0.2
    refine ⟨?_, by simpa using i2⟩
    rw [List.length_cons, List.take_succ_cons, List.all_cons, i1, Bool.and_true]
    rcases h.1 with e | e
    · rw [e]; exact h0.1
    · exact e
theorem RS.undr (rs : RS g ι s H) : s.all (O.under s.length) = true := by
  rw [List.all_eq_true]
  intro o ho
  obtain ⟨n, hn⟩ := List.mem_iff_getElem?.mp ho
  obtain ⟨a, _, r⟩ := rs.at_ n o hn
  rw [← rs.len]
  exact r.undr
/-- behind a call what is left over is forgotten -/
theorem tidy_ok {s0 : Sto} {W : WX} {σ : L2.St} {t : T} {v : V} {Q : VK} (rs0 : RS g ι s0 H) (h : Wp g W (rlT g) σ ι H (tidy s0 t s') Q) (x : Ext ι H ι' H') (rs : RS g ι' s' H') (r : (rlT g).r H ι' H' t v) : LK (Q v) H' := by
  have keepAll : Wp g W (rlT g) σ ι H (.ok t s') Q → LK (Q v) H' := fun q => .done (q ι' H' v x rs r)
  have pt := pre_take x.pre
  have hl0 := rs0.len
  unfold tidy at h
  split at h
  · rename_i hk
    have hu := (kept_all hk rs0.undr).1
    rw [← hl0] at hu h
    have rs1 : RS g (ι'.take ι.length) (s'.take ι.length) H' := rs.cut hu
    have fin : ∀ {S : Sto} {H1 : Hp} {t' : T}, Lkd ι' S ι.length H' H1 → Wp g W (rlT g) σ ι H (.ok t' (s'.take ι.length)) Q → (rlT g).r H ι H1 t' v → Q v H1 := fun {S H1 t'} k w q => by
      have z := k.rs rs.nd rs1
      rw [pt] at z
      exact w ι H1 v (k.ext x rs.nd) z q
    split at h
    · rename_i t' ht
      unfold reT at ht
      split at ht
      · -- a list outside
        simp only [Option.map_eq_some_iff] at ht
        obtain ⟨ys, e1, rfl⟩ := ht
        obtain ⟨r1, fr⟩ := r
        cases r1 with
        | @l _ a vs ea na rd =>
          refine reL_ok (n := ι.length) (reD_ok 8) (fun k _ _ r => k.rdt r) _ ys vs H' _ (Loose.of rs) rd e1 fun H1 k r1 => .done (fin k h ⟨.l ((k.out na).trans ea) (fun m => na (x.pre.mem m)) (by rw [pt] at r1; exact r1), ?_⟩)
          obtain ⟨b, eb, q⟩ := fr
          exact ⟨b, eb, q⟩
      · -- a place
        rename_i m
        split at ht
        · rename_i hm
          cases ht
          refine .done (fin (S := s') Lkd.refl h ⟨?_, trivial⟩)
          cases r.1 with
          | v q =>
            cases q with
            | loc q =>
              refine .v (.loc ?_)
              rw [← pt, List.getElem?_take_of_lt hm]
              exact q
        · rename_i hm
          split at ht
          · rename_i xs hs
            simp only [Option.map_eq_some_iff] at ht
            obtain ⟨ys, e1, rfl⟩ := ht
            cases r.1 with
            | v q =>
              cases q with
              | @loc _ a q =>
                obtain ⟨b, eb, vs, e2, r1⟩ := rs.at_ m _ hs
                have e3 : b = a := by rw [q] at eb; exact (Option.some.inj eb).symm
                subst e3
                have na : b ∉ ι := fun mb => by
                  obtain ⟨j, hj, ej⟩ := List.mem_iff_getElem.mp mb
                  have e3 : ι'[j]? = some b := by
                    rw [← List.getElem?_take_of_lt hj, pt, List.getElem?_eq_getElem hj, ej]
                  obtain ⟨l1, q1⟩ := List.getElem?_eq_some_iff.mp e3
                  obtain ⟨l2, q2⟩ := List.getElem?_eq_some_iff.mp q
                  have := (List.getElem_inj rs.nd).mp (q1.trans q2.symm)
                  omega
                have ml : m < s'.length := (List.getElem?_eq_some_iff.mp hs).1
                have loose : Loose g ι' (s'.set m (.dic false [])) ι.length H' := fun j zs hj ej => by
                  by_cases hjm : m = j
                  · subst hjm
                    rw [List.getElem?_set_self ml] at ej
                    cases ej
                  · rw [List.getElem?_set_ne hjm] at ej
                    exact Loose.of rs j zs hj ej
                refine reL_ok (n := ι.length) (reD_ok 8) (fun k _ _ r => k.rdt r) xs ys vs H' _ loose r1 e1 fun H1 k r2 => .done (fin k h ⟨.l ?_ na (by rw [pt] at r2; exact r2), b, rfl, x.new b (List.mem_of_getElem? q) na⟩)
                refine (k.apart rs.nd q (.inr fun zs z => ?_)).trans e2
                rw [List.getElem?_set_self ml] at z
                cases z
          · cases ht
      · -- data
        rename_i d hd
        simp only [Option.map_eq_some_iff] at ht
        obtain ⟨d', e1, rfl⟩ := ht
        cases r.1 with
        | v q =>
          refine reD_ok (n := ι.length) 8 H' d d' v _ (Loose.of rs) q e1 fun H1 k r1 => .done (fin k h ⟨.v (by rw [pt] at r1; exact r1), trivial⟩)
    · exact keepAll h
  · exact keepAll h
theorem res_ok {s0 : Sto} {σ : L2.St} {m : Fl} {Q : VK} {E : XK} (rs0 : RS g ι s0 H) (h : Wp g (fun c d _ H => E c d H) (rlT g) σ ι H (m.res s0) Q) :
    WpS g (fun c d _ H => E c d H) { nx := fun _ H' => LK (Q .non) H', rt := fun v H' => LK (Q v) H' } ι H m := by
  cases m with
  | nx ρ s' => exact fun ι' H' σ' x rs re => tidy_ok rs0 h x rs (rlT.v .non)
  | rt t s' => exact fun ι' H' v x rs r => tidy_ok rs0 h x rs r
  | bk ρ s' => exact h.elim
  | ct ρ s' => exact h.elim
  | ex ρ y s' =>
    intro ι' H' σ' c d x rs re rx
    have h : Wp g (fun c d _ H => E c d H) (rlT g) σ ι H (if (keptB s0.length s0 s' && D.under s0.length y.val) = true then .ex y (s'.take s0.length) else .ex y s') Q := h
    have hl0 := rs0.len
    split at h
    · rename_i hk
      simp only [Bool.and_eq_true] at hk
      have hu : ((s'.take ι.length).all (O.under ι.length)) = true ∧ D.under ι.length y.val = true := by
        have z := (kept_all hk.1 rs0.undr).1
        rw [← hl0] at z hk
        exact ⟨z, hk.2⟩
      rw [← hl0] at h
      have pt := pre_take x.pre
      have rs1 : RS g ι (s'.take ι.length) H' := by
        have q := rs.cut hu.1
        rw [pt] at q
        exact q
      obtain ⟨e1, dx, v, e2, e3, e4⟩ := rx
      have z := e4.cut hu.2
      rw [pt] at z
      exact h ι H' c d x.cut rs1 ⟨e1, dx, v, e2, e3, z⟩
    · exact h ι' H' c d x rs rx
  | bad => exact h.elim
theorem start_ok {N : List Str} {ds : List D} {vs : List V} (r : RDs g ι H ds vs) : RE g ι H (ds.map some ++ List.replicate (N.length - vs.length) none) (L2.start N vs) := by
  have hl := r.length
  refine ⟨by simp [L2.start, hl], fun i d h => ?_⟩
  by_cases hi : i < ds.length
  · rw [List.getElem?_append_left (by simpa using hi), List.getElem?_map] at h
    cases e : ds[i]? with
    | none => rw [e] at h; cases h
    | some d' =>
      rw [e] at h
      cases h
      obtain ⟨v, e1, r1⟩ := r.get e
      refine ⟨v, ?_, r1⟩
      unfold L2.start
      rw [List.getElem?_append_left (by rw [List.length_map]; omega), List.getElem?_map, e1]
      rfl
  · rw [List.getElem?_append_right (by simpa using hi), List.getElem?_replicate] at h
    split at h <;> cases h
end

/-- a def as it stands behind the top, with defaults or without -/
structure FunX (K : PySem.W.Frag) (x qual : Str) (st : Stmt) (f : Addr) (fd : FuncData) : Prop where
  ex : ∃ (oc : Value) (od : Option Addr) (dV kV doc pm : Value) (an : Option Addr) (cdv ct : Value) (osl : Array (Option Value)),
    fd = PySem.W.fnOf x qual (defArgs st) (defBody st) (defScope st) dV kV doc pm an cdv ct ∧ K.lookup f = some ⟨oc, od, .func fd, osl⟩ ∧ PySem.W.codeIn K cdv qual = true
  kp : PySem.W.keepIn K (.ref f) = true
theorem FunX.of {K : PySem.W.Frag} {x qual : Str} {st : Stmt} {f : Addr} {fd : FuncData} (F : Fun K x qual st f fd) : FunX K x qual st f fd := by
  obtain ⟨oc, od, kV, doc, pm, an, cdv, ct, osl, h1, h2, h3⟩ := F.ex
  exact ⟨⟨oc, od, _, kV, doc, pm, an, cdv, ct, osl, h1, h2, h3⟩, F.kp⟩
/-- a def of the text and its IR; b: it makes lambdas -/
structure DefOk (g : Glo) (mg : Str → Option Value) (base : Heap) (tb : Tab) (f : Str) (d : Fn) : Prop where
  ok : ∃ (st : Stmt) (qual : Str) (fa : Addr) (fd : FuncData) (N ps : List Str) (b : Bool) (x : Str), FunX g.K x qual st fa fd ∧ FnScope N ps (defScope st) ∧ ps.length = d.np ∧ N.length = d.nn ∧ Placed g tb mg f fa ∧
    ckSs (tb.flag b) (defScope st) (fun _ => true) N d.body (defBody st) = true ∧
    (∀ n, n ≤ d.np → d.np - n ≤ d.dv.length → ∃ ds dvs, Binds g.K fd ps ds ∧ Vals dvs ds ∧ ∀ ι H, RDs g ι H (d.dv.drop (d.dv.length + n - d.np)) dvs) ∧
    (b = true → ∃ c P, LamX.TabB base mg c P ∧ fd.code = .ref c ∧ (P, qual ++ ".<locals>." ++ "<lambda>") ∈ g.T ∧ ∀ p ∈ g.T, p.1 = P → p.2 = qual ++ ".<locals>." ++ "<lambda>")
/-- what the top leaves to its names -/
structure TopOk (g : Glo) (P : Program) (w : World) (base : Heap) (tb : Tab) (mg : Str → Option Value) : Prop where
  mgB : ∀ f, mg (biName f) = none
  mgI : mg "range" = none ∧ mg "zip" = none ∧ mg "enumerate" = none
  mgS : mg "set" = none
  mgT : ∀ p ∈ tyNames, mg p.1 = none
  hds : ∀ x c, tb.hd x = some c → HdOk g mg x c
  hds2 : ∀ x c, tb.hd2 x = some c → Hd2Ok g mg x c
  xcs : ∀ c, tb.xc c = true → XcOk g P w mg base c
  con : ∀ x d, tb.cs x = some d → ∃ u v, mg x = some u ∧ RelV v u ∧ ∀ ι H, RD g ι H d v
  nfs : ∀ c f, tb.nf c f = true → NoAttr g.K (g.ga c) f
theorem CallOk.flag {g : Glo} {P : Program} {w : World} {mg : Str → Option Value} {base : Heap} {tb : Tab} {wf k : Nat} {f : Str} {d : Fn} (b : Bool) (h : CallOk g P w mg base tb wf k f d) : CallOk g P w mg base (tb.flag b) wf k f d := by
  obtain ⟨fa, fd, ps, F, r⟩ := h.ok
  exact ⟨fa, fd, ps, F.imp fun vs H Q E ⟨ι, s, ds, a, b, c, e⟩ => ⟨ι, s, ds, a, b, c, by rw [run_flag] at e; exact e⟩, r⟩
theorem fn_step {g : Glo} {P : Program} {w : World} {mg : Str → Option Value} {base : Heap} {tb : Tab} {wf k : Nat} {f x qual : Str} {d : Fn} {st : Stmt} {fa : Addr} {fd : FuncData} {N ps : List Str} {b : Bool} (T : TopOk g P w base tb mg)
    (ih : ∀ f d, tb f = some d → CallOk g P w mg base tb wf k f d) (h : tb f = some d) (F : FunX g.K x qual st fa fd) (S : FnScope N ps (defScope st)) (h1 : ps.length = d.np) (h2 : N.length = d.nn)
    (h4 : ckSs (tb.flag b) (defScope st) (fun _ => true) N d.body (defBody st) = true)
    (h5 : b = true → ∃ c P, LamX.TabB base mg c P ∧ fd.code = .ref c ∧ (P, qual ++ ".<locals>." ++ "<lambda>") ∈ g.T ∧ ∀ p ∈ g.T, p.1 = P → p.2 = qual ++ ".<locals>." ++ "<lambda>") : FnOk P w g.K mg base (L2.CX P w) (4 * (k + 1) + 3) fa fd ps (spF g tb wf (k + 1) f d.np) := by
  obtain ⟨oc, od, dV, kV, doc, pm, an, cdv, ct, osl, rfl, lk, hcd⟩ := F.ex
  refine fn_of lk hcd S (fun vs H Q E ⟨ι, s, ds, rs, r, hl, w⟩ => by rw [hl, h1]) fun A outer s H vs Q E hr ⟨ι, st', ds, rs, r, hl, w'⟩ => ?_
  refine ⟨_, pss_lk (t := tS g (fun c d _ H => E c d H) (evSs (run tb wf k) wf d.body)) ?_, ?_⟩
  · rw [← run_flag tb b]
    refine okSs (tb := tb.flag b) (wf := wf) (k := k) d.body (defBody st) (fun c d _ H => E c d H) _ ?_ h4
    exact ⟨rfl, rfl, S.nd, S.kind, passes_of rfl, hr.mono (by omega), T.mgB, T.mgI, T.mgS, T.mgT, takes_of rfl rfl rfl rfl, fun hb => ⟨hr, rfl, rfl, h5 hb⟩, T.hds, T.hds2, T.xcs, T.con, T.nfs, fun f' d' h' => (ih f' d' h').flag b⟩
  · have hl2 := r.length
    have fl : d.fill ds = ds := by
      unfold Fn.fill
      rw [hl2, hl, Nat.add_sub_cancel, List.drop_length, List.append_nil]
    have er : run tb wf (k + 1) f ds st' = (evSs (run tb wf k) wf d.body (ds.map some ++ List.replicate (d.nn - d.np) none) st').res st' := by
      rw [run]
      simp only [h, fl, hl2, hl, if_true]
    rw [er] at w'
    refine ⟨ι, ds.map some ++ List.replicate (d.nn - d.np) none, st', ?_, rs, ?_⟩
    · have z := start_ok (N := N) r
      rw [h2, hl] at z
      exact z
    · exact res_ok rs w'
theorem fn_ok {g : Glo} {P : Program} {w : World} {mg : Str → Option Value} {base : Heap} {tb : Tab} {wf : Nat} (T : TopOk g P w base tb mg) (hd : ∀ f d, tb f = some d → DefOk g mg base tb f d) :
    ∀ k f d, tb f = some d → CallOk g P w mg base tb wf k f d := by
  intro k
  induction k with
  | zero =>
    intro f d h
    obtain ⟨st, qual, fa, fd, N, ps, b, x, F, S, h1, h2, h3, h4, h5, h6⟩ := (hd f d h).ok
    refine ⟨fa, fd, ps, ⟨fun vs H Q E ⟨ι, s, ds, rs, r, hl, w⟩ => by rw [hl, h1], fun A outer s H args us vs Q E hr he hb hv ⟨ι, st, ds, rs, r, hl, w⟩ => ?_⟩, h1, h3, h5⟩
    exact w.elim
  | succ k ih =>
    intro f d h
    obtain ⟨st, qual, fa, fd, N, ps, b, x, F, S, h1, h2, h3, h4, h5, h6⟩ := (hd f d h).ok
    exact ⟨fa, fd, ps, fn_step T ih h F S h1 h2 h4 h6, h1, h3, h5⟩
end Fy
end
section
set_option Elab.async false
set_option linter.all false
set_option maxRecDepth 100000
set_option maxHeartbeats 1000000
/-! Fz6: a list that a def is handed, locked. -/
namespace Fy
open PySem PySem.Spec PyProof.Rows L2
theorem lock_fn {P : Program} {w : World} {K : PySem.W.Frag} {mg : Str → Option Value} {base : Heap} {k : Nat} {fa : Addr} {fd : FuncData} {ps : List Str} {sp sp' : Sp} (F : FnOk P w K mg base (L2.CX P w) k fa fd ps sp) (hl : ∀ vs H Q E, sp' vs H Q E → vs.length = ps.length)
    (h : ∀ vs H Q E, sp' vs H Q E → sp vs H Q E ∨ (E = fun _ _ _ => False) ∧ ∃ a xs, H a = some (.lst xs) ∧ ∀ o, sp vs (upd H a (.frz o (.lst xs))) Q E) : FnOk P w K mg base (L2.CX P w) k fa fd ps sp' := by
  refine ⟨hl, fun A outer s H args us vs Q E hr e0 hb hv hs => ?_⟩
  rcases h vs H Q E hs with q | ⟨rfl, a, xs, ha, q⟩
  · exact F.run A outer s H args us vs Q E hr e0 hb hv q
  · obtain ⟨o, ho⟩ := objOk_get (e0.hok a _ ha)
    have ne : ∀ {b : Addr}, H b = none → b ≠ a := fun {b} e z => by rw [z, ha] at e; cases e
    have nk : ∀ {b : Addr} {u : HO}, H b = some u → (∀ ys, u ≠ .lst ys) → b ≠ a := fun {b u} e k z => by
      rw [z, ha] at e
      exact k xs (Option.some.inj e).symm
    have e1 : Env0 P w K mg base A outer s (upd H a (.frz o (.lst xs))) := ⟨e0.frames, e0.mod, fun b u e => ⟨(e0.bs b u e).1, by rw [upd_ne (ne (e0.bs b u e).2)]; exact (e0.bs b u e).2⟩, e0.bsz, e0.funs, fun b m => by rw [upd_ne (ne (e0.frf b m))]; exact e0.frf b m, fun b u e => by
      have st : ∀ {b : Addr} {u : HO}, ObjOk P w H s.heap b u → ObjOk P w (upd H a (.frz o (.lst xs))) s.heap b u := fun {b u} z => z.stay (fun _ _ _ y => y) (fun c y => by rw [upd_ne (nk y fun _ t => by cases t)]; exact y) fun c ys y => by rw [upd_ne (nk y fun _ t => by cases t)]; exact y
      by_cases hba : b = a
      · subst hba
        rw [upd_same] at e
        cases e
        exact ⟨ho, st (e0.hok _ _ ha)⟩
      · rw [upd_ne hba] at e
        exact st (e0.hok b u e), e0.bare⟩
    refine codeAny_mono (F.run A outer s _ args us vs Q _ hr e1 hb hv (q o)) fun r s' hq => ?_
    cases r with
    | error e =>
      obtain ⟨_, _, _, _, _, _, _, _, _, _, _, _, z⟩ := hq
      exact z.elim
    | ok fl =>
      cases fl with
      | ret u =>
        obtain ⟨v, H', os, bare, un, hok, rv, qv⟩ := hq
        have f : ∀ {b : Addr} {z : Option HO}, b ≠ a → H b = z → upd H a (.frz o (.lst xs)) b = z := fun {b z} n e => by rw [upd_ne n]; exact e
        exact ⟨v, H', os, bare, ⟨fun b u e n => un.keep b u e (f (ne n) n), fun b u e n => un.slot b u e (f (ne n) n), fun b u e n => un.free b u e (f (ne n) n), un.there, fun b ys e => un.tups b ys (f (nk e fun _ t => by cases t) e), fun b y ys e => un.frzs b y ys (f (nk e fun _ t => by cases t) e),
          fun b ps e => un.tbls b ps (f (nk e fun _ t => by cases t) e)⟩, hok, rv, qv⟩
      | next => exact hq.elim
      | brk => exact hq.elim
      | cont => exact hq.elim
end Fy
end
section
set_option Elab.async false
set_option linter.all false
set_option maxRecDepth 100000
set_option maxHeartbeats 1000000
/-! FyF: the law's end. -/
namespace Fy
open PySem PySem.Spec PyProof.Rows L2
/-- what the law's def is asked for: a script in, True out; ts: the tables -/
def spLaw (K : PySem.W.Frag) (ts : List Addr) : Sp := fun vs H Q E => E = (fun _ _ _ => False) ∧ ∃ (a : Addr) (ns : List Int), vs = [.ref a] ∧ ns.length ≤ 63 ∧ (∀ p ∈ ts, H p = some (.tbl #[])) ∧ SqL K H a (ns.map V.int) ∧ ∀ H', Q (.bl true) H'
/-- .. the script locked -/
def spLawF (K : PySem.W.Frag) (ts : List Addr) : Sp := fun vs H Q E => ∃ (a : Addr) (ns : List Int), vs = [.ref a] ∧ ns.length ≤ 63 ∧ (∀ p ∈ ts, H p = some (.tbl #[])) ∧ SqF K H a (ns.map V.int) ∧ ∀ H', Q (.bl true) H'
/-- where the text's own things stand -/
def gaOf (mg : Str → Option Value) (x : Str) : Addr :=
  match mg x with
  | some (.ref a) => a
  | _ => 0
theorem binds0 {K : PySem.W.Frag} {fd : FuncData} {ps : List Str} {g : Glo} {d : Fn} (B : L2.Binds g.K fd ps []) (hl : ps.length = d.np) (hd : d.dv = []) : ∀ n, n ≤ d.np → d.np - n ≤ d.dv.length → ∃ ds dvs, L2.Binds g.K fd ps ds ∧ Vals dvs ds ∧ ∀ ι H, RDs g ι H (d.dv.drop (d.dv.length + n - d.np)) dvs := fun n h1 h2 =>
  ⟨[], [], B, .nil, fun ι H => by rw [hd]; simp; exact .nil⟩
theorem law_end {g : Glo} {P : Program} {w : World} {mg : Str → Option Value} {base : Heap} {tb : Tab} {wf k j : Nat} {fa : Addr} {fd : FuncData} {ps : List Str} {d : Fn} (hd : d.np = 1) (hps : ps.length = 1)
    (F : FnOk P w g.K mg base (L2.CX P w) j fa fd ps (spF g tb wf k "law" d.np)) (h : ∀ ns : List Int, ns.length ≤ 63 → ∃ s, run tb wf k "law" [.fro (ns.map .int)] [] = .ok (.v (.bl true)) s) :
    FnOk P w g.K mg base (L2.CX P w) j fa fd ps (spLaw g.K (g.T.map (·.1))) := by
  have F1 : FnOk P w g.K mg base (L2.CX P w) j fa fd ps (spLawF g.K (g.T.map (·.1))) := F.imp fun vs H Q E ⟨a, ns, e, hl, hT, hF, q⟩ => by
    subst e
    obtain ⟨s, er⟩ := h ns hl
    have r : ∀ ms : List Int, RDs g [] H (ms.map D.int) (ms.map V.int) := fun ms => by
      induction ms with
      | nil => exact .nil
      | cons n ms ih => exact .cons (.int n) ih
    refine ⟨[], [], [.fro (ns.map .int)], ⟨List.nodup_nil, rfl, fun n o h => by simp at h, fun p hp => LamX.TabS.nil (hT p.1 (List.mem_map.mpr ⟨p, hp, rfl⟩))⟩, .cons (.fro hF (r ns)) .nil, by rw [hd]; rfl, ?_⟩
    rw [er]
    intro ι' H' v x rs' rt
    have ev : v = .bl true := rt.1.bl_
    subst ev
    exact q H'
  refine lock_fn F1 (fun vs H Q E ⟨_, a, ns, e, _⟩ => by rw [e, hps]; rfl) fun vs H Q E ⟨eE, a, ns, e, hl, hT, hS, q⟩ => ?_
  subst e
  rcases hS with (z | z) | z
  · refine .inr ⟨eE, a, _, z, fun o => ⟨a, ns, rfl, hl, fun p hp => ?_, .inl ⟨o, upd_same⟩, q⟩⟩
    rw [upd_ne (fun y => by have t := hT p hp; rw [y, z] at t; cases t)]
    exact hT p hp
  · exact .inl ⟨a, ns, rfl, hl, hT, .inl z, q⟩
  · exact .inl ⟨a, ns, rfl, hl, hT, .inr z, q⟩
theorem cx_false {P : Program} {w : World} {outer : List PySem.Env} {H : Hp} {s s' : Shared} {e : Value} (h : L2.CX P w outer H s (fun _ _ _ => False) e s') : False := by
  obtain ⟨_, _, _, _, _, _, _, _, _, _, _, _, z⟩ := h
  exact z
end Fy
end
section
set_option Elab.async false
set_option linter.all false
set_option maxRecDepth 100000
set_option maxHeartbeats 1000000
/-! FyH: the facts of the top, for the law's end. -/
namespace Fy
open PySem PySem.Spec PyProof.Rows L2
/-- a def within a class, by its place -/
def inCls (s : Stmt) (i : Nat) : Stmt :=
  match s with
  | .ClassDef _ _ _ b _ _ _ _ _ _ _ => b.getD i (.Pass ⟨0, 0, 0, 0⟩)
  | _ => .Pass ⟨0, 0, 0, 0⟩
/-- one default -/
theorem binds1 {fd : FuncData} {ps : List Str} {g : Glo} {d : Fn} {x : Fy.D} {u : Value} {v : V} (B0 : L2.Binds g.K fd ps []) (B1 : L2.Binds g.K fd ps [u]) (hl : ps.length = d.np) (hd : d.dv = [x]) (rv : RelV v u) (rx : ∀ ι H, RD g ι H x v) :
    ∀ n, n ≤ d.np → d.np - n ≤ d.dv.length → ∃ ds dvs, L2.Binds g.K fd ps ds ∧ Vals dvs ds ∧ ∀ ι H, RDs g ι H (d.dv.drop (d.dv.length + n - d.np)) dvs := fun n h1 h2 => by
  rw [hd] at h2
  simp only [List.length_cons, List.length_nil, Nat.zero_add] at h2
  by_cases hn : n = d.np
  · subst hn
    refine ⟨[], [], B0, .nil, fun ι H => ?_⟩
    rw [hd]
    simp only [List.length_cons, List.length_nil, Nat.zero_add, Nat.add_sub_cancel, List.drop_succ_cons, List.drop_nil]
    exact .nil
  · refine ⟨[u], [v], B1, .cons rv .nil, fun ι H => ?_⟩
    rw [hd]
    have e : [x].length + n - d.np = 0 := by simp only [List.length_cons, List.length_nil]; omega
    rw [e]
    exact .cons (rx ι H) .nil
theorem binds_dv {K : PySem.W.Frag} {fd : FuncData} {ps : List Str} {T : Addr} {o : Obj} {its : Array Value} {m : Nat} {u : Value} (lT : K.lookup T = some o) (oT : o.data = .seq its m)
    (h : ∀ us : List Value, us.length + 1 = ps.length → ∃ k, bindArgs fd ⟨us, []⟩ = seqItems? (.ref T) >>= k ∧ k (some its) = pure (ps.zip (us ++ [u]))) : L2.Binds K fd ps [u] := fun s us X hlen => by
  rw [List.length_append] at hlen
  obtain ⟨k, e1, e2⟩ := h us (by simpa using hlen)
  refine L2.BindsTo.of_looks fun M => ?_
  rw [e1]
  exact looks_items X lT oT (.of_pure e2)
theorem binds_dv0 {K : PySem.W.Frag} {fd : FuncData} {ps : List Str} {T : Addr} {o : Obj} {its : Array Value} {m : Nat} (lT : K.lookup T = some o) (oT : o.data = .seq its m)
    (h : ∀ us : List Value, us.length = ps.length → ∃ k, bindArgs fd ⟨us, []⟩ = seqItems? (.ref T) >>= k ∧ k (some its) = pure (ps.zip us)) : L2.Binds K fd ps [] := fun s us X hlen => by
  rw [List.append_nil] at hlen ⊢
  obtain ⟨k, e1, e2⟩ := h us hlen
  refine L2.BindsTo.of_looks fun M => ?_
  rw [e1]
  exact looks_items X lT oT (.of_pure e2)
theorem lawAt_of {l : PySem.W.OpenLaw} {w : World} {K : PySem.W.Frag} {k : Nat} {mg : Str → Option Value} {fa : Addr} {h : Heap}
    (key : ∃ (fd : FuncData) (cs : List (Addr × Addr)), (∀ p ∈ cs, h.get? p.2 = some { cls := .none, data := .fields #[] }) ∧ (∀ p ∈ cs, K.lookup p.2 = none) ∧ (∀ p ∈ cs, PySem.W.CodeHd h p.1 p.2) ∧ (∀ (s : Shared) (v : Value), BindsTo s fd ⟨[v], []⟩ [("script", v)]) ∧
      ∀ base : Heap, K.In base → base.Ns mainGlobals mg → (∀ p ∈ cs, LamX.TabB base mg p.1 p.2) → FnOk l.prog w K mg base (L2.CX l.prog w) k fa fd ["script"] (spLaw K (cs.map (·.2)))) : LamX.LawAtS l w K (L2.CX l.prog w) k 63 "script" mg fa h := by
  obtain ⟨fd, cs, h1, h2, h3, h4, h5⟩ := key
  exact ⟨fd, cs, spLaw K (cs.map (·.2)), h1, h2, h3, h4, fun H a ns hl _ hp hS => ⟨rfl, a, ns, rfl, hl, fun p hp' => by obtain ⟨q, hq, rfl⟩ := List.mem_map.mp hp'; exact hp q hq, hS, fun _ => rfl⟩, h5⟩
/-- what a text's list holds -/
def look {α : Type} : List (Str × α) → Str → Option α
  | [], _ => none
  | p :: r, f => if f = p.1 then some p.2 else look r f
theorem look_mem {α : Type} {f : Str} {d : α} : ∀ {l : List (Str × α)}, look l f = some d → (f, d) ∈ l
  | [], h => by cases h
  | p :: r, h => by
    unfold look at h
    split at h
    · rename_i e
      subst e
      cases h
      exact List.mem_cons_self ..
    · exact List.mem_cons_of_mem _ (look_mem h)
theorem all_nil {α : Type} {p : α → Prop} : ∀ x ∈ ([] : List α), p x := fun x h => by cases h
theorem all_cons {α : Type} {p : α → Prop} {a : α} {l : List α} (h : p a) (t : ∀ x ∈ l, p x) : ∀ x ∈ a :: l, p x := fun x hx => by
  rcases List.mem_cons.mp hx with rfl | hx
  · exact h
  · exact t x hx
theorem ga_of {mg : Str → Option Value} {x : Str} {a : Addr} (h : mg x = some (.ref a)) : gaOf mg x = a := by unfold gaOf; rw [h]
theorem con_int {g : Glo} {mg : Str → Option Value} {x : Str} {i : Int} {t : Tok} (h : mg x = some (.int i t)) : ∃ u v, mg x = some u ∧ RelV v u ∧ ∀ ι H, RD g ι H (.int i) v := ⟨_, .int i, h, ⟨_, rfl⟩, fun _ _ => .int i⟩
theorem con_str {g : Glo} {mg : Str → Option Value} {x z : Str} {t : Tok} (h : mg x = some (.str z t)) : ∃ u v, mg x = some u ∧ RelV v u ∧ ∀ ι H, RD g ι H (.str z) v := ⟨_, .str z, h, ⟨_, rfl⟩, fun _ _ => .str z⟩
/-- what a written value is -/
inductive RK (g : Glo) : Fy.D → Value → V → Prop
  | non : RK g .non .none .non
  | bl (b : Bool) : RK g (.bl b) (.bool b) (.bl b)
  | int (i : Int) (t : Tok) : RK g (.int i) (.int i t) (.int i)
  | str (x : Str) (t : Tok) : RK g (.str x) (.str x t) (.str x)
  | ref {d : Fy.D} {a : Addr} (h : ∀ ι H, RD g ι H d (.ref a)) : RK g d (.ref a) (.ref a)
theorem RK.rel {g : Glo} {d : Fy.D} {u : Value} {v : V} (h : RK g d u v) : RelV v u := by
  cases h <;> first | rfl | exact ⟨_, rfl⟩
theorem RK.rd {g : Glo} {d : Fy.D} {u : Value} {v : V} (h : RK g d u v) (ι : List Addr) (H : Hp) : RD g ι H d v := by
  cases h with
  | non => exact .non
  | bl b => exact .bl b
  | int i t => exact .int i
  | str x t => exact .str x
  | ref h => exact h ι H
inductive RKs (g : Glo) : List Fy.D → List Value → List V → Prop
  | nil : RKs g [] [] []
  | cons {d : Fy.D} {u : Value} {v : V} {ds : List Fy.D} {us : List Value} {vs : List V} : RK g d u v → RKs g ds us vs → RKs g (d :: ds) (u :: us) (v :: vs)
theorem RKs.vals {g : Glo} : ∀ {ds : List Fy.D} {us : List Value} {vs : List V}, RKs g ds us vs → Vals vs us
  | _, _, _, .nil => .nil
  | _, _, _, .cons r t => .cons r.rel t.vals
theorem RKs.rds {g : Glo} (ι : List Addr) (H : Hp) : ∀ {ds : List Fy.D} {us : List Value} {vs : List V}, RKs g ds us vs → RDs g ι H ds vs
  | _, _, _, .nil => .nil
  | _, _, _, .cons r t => .cons (r.rd ι H) (t.rds ι H)
/-- a written tuple -/
theorem rk_tup {g : Glo} {a : Addr} {o : Obj} {its : Array Value} {n : Nat} {ds : List Fy.D} {vs : List V} (h : g.K.lookup a = some o) (hc : o.cls = .type "tuple") (hd : o.data = .seq its n) (hz : its.size ≤ sizeLine) (r : RKs g ds its.toList vs) : ∀ ι H, RD g ι H (.tup ds) (.ref a) := fun ι H => by
  refine .tup ?_ (r.rds ι H)
  exact .inr ⟨o, its, n, h, hc, hd, hz, r.vals⟩
theorem con_rk {g : Glo} {mg : Str → Option Value} {x : Str} {u : Value} {d : Fy.D} {v : V} (h : mg x = some u) (r : RK g d u v) : ∃ u v, mg x = some u ∧ RelV v u ∧ ∀ ι H, RD g ι H d v := ⟨u, v, h, r.rel, r.rd⟩
theorem xc_mk {g : Glo} {P : Program} {w : World} {mg : Str → Option Value} {base : Heap} {c : Str} {C fI : Addr} {qual : Str} {params : Arguments} {body : List Stmt} {scope : Scope} {dV kV doc pm cdv ct : Value} {an : Option Addr} (hm : mg c = some (.ref C)) (hg : g.ga c = C)
    (T : XcC P g.K mg C fI qual params body scope dV kV doc pm cdv ct an) (hi : PySem.W.findIn g.K (.ref C) "__init__" = some (some (.ref fI))) (ht : PySem.W.typeIn g.K (.ref fI) = some (.type "function"))
    (hb : ∀ (cc : Addr) (us : List Value), us.length = 2 → bindArgs (PySem.W.ksFn "__init__" qual params body scope dV kV doc pm an cdv ct cc) ⟨us, []⟩ = pure (([("self" : Str), "at"] : List Str).zip us)) : XcOk g P w mg base c := by
  obtain ⟨fd, hl, ⟨cc, rfl⟩, F⟩ := xc_init (w := w) (base := base) (k := 0) T
  exact ⟨C, fI, _, hm, hg, T.oex, hi, ht, F, .all fun us hl => hb _ us hl⟩
theorem placed_glob {g : Glo} {tb : Tab} {mg : Str → Option Value} {f : Str} {fa : Addr} (h : tb.mt f = none) (hm : mg f = some (.ref fa)) (hk : PySem.W.keepIn g.K (.ref fa) = true) : Placed g tb mg f fa := by
  unfold Placed
  rw [h]
  exact ⟨hm, hk⟩
theorem placed_init {g : Glo} {tb : Tab} {mg : Str → Option Value} {f c : Str} {fa C : Addr} (h : tb.mt f = some c) (hm : mg c = some (.ref C)) (hg : g.ga c = C) (M : Mk g.K C fa) (l : Cls g.K C) : Placed g tb mg f fa := by
  unfold Placed
  rw [h]
  exact ⟨C, hm, hg, M, l⟩
/-- the names that no class has -/
theorem nfs_of {g : Glo} {mt : Str → Str → Bool} {L : List (Str × Str)} (h : ∀ c f, mt c f = true → (c, f) ∈ L) (hL : ∀ p ∈ L, NoAttr g.K (g.ga p.1) p.2) : ∀ c f, mt c f = true → NoAttr g.K (g.ga c) f := fun c f e => hL (c, f) (h c f e)
end Fy
end
section
set_option Elab.async false
set_option linter.all false
set_option maxRecDepth 100000
namespace K08
open PySem L2 Fy
/-! ### the text, by places -/
def top (i : Nat) : Stmt := PySem.Challenge.pw_fairneed_k08_whole_situations_moves_and.main.body.getD i (.Pass ⟨0, 0, 0, 0⟩)
abbrev st_is_integer : Stmt := top 5
abbrev st_is_number : Stmt := top 6
abbrev st_is_size : Stmt := top 7
abbrev st_is_sequence : Stmt := top 8
abbrev st_is_row : Stmt := top 9
abbrev st_checked_kind : Stmt := top 15
abbrev st_steps_from : Stmt := top 16
abbrev st_Team___init__ : Stmt := inCls (top 17) 0
abbrev st_moves_from : Stmt := top 18
abbrev st_is_step : Stmt := top 19
abbrev st_need_singles : Stmt := top 22
abbrev st_opening : Stmt := top 23
abbrev st_is_situation : Stmt := top 24
abbrev st_is_rest : Stmt := top 25
abbrev st_moves_at : Stmt := top 26
abbrev st_is_move_at : Stmt := top 27
abbrev st_led : Stmt := top 28
abbrev st_gone : Stmt := top 29
abbrev st_is_stuck : Stmt := top 30
abbrev st__law_well : Stmt := top 32
abbrev st__law_dip : Stmt := top 33
abbrev st__law_one : Stmt := top 34
abbrev st__law_like : Stmt := top 35
abbrev st__law_heard : Stmt := top 36
abbrev st__law_kind : Stmt := top 37
abbrev st__law_team : Stmt := top 38
abbrev st__law_opening : Stmt := top 39
abbrev st__law_moves : Stmt := top 40
abbrev st__law_led : Stmt := top 41
abbrev st__law_any_there : Stmt := top 42
abbrev st__law_moves_told : Stmt := top 43
abbrev st__law_odd_theres : Stmt := top 44
abbrev st_law : Stmt := top 45
abbrev st_InvalidTeam : Stmt := inCls (top 3) 0
abbrev st_Refused : Stmt := inCls (top 2) 0
/-! ### the IR -/
def f_is_integer : Fn := ⟨1, 1, [],
    (.cons (.ret (.and2 (.bi .isinst (.cons (.var 0) (.cons (.tyn "int" "int") .nil))) (.not1 (.bi .isinst (.cons (.var 0) (.cons (.tyn "bool" "bool") .nil))))))
    .nil)⟩
def f_is_number : Fn := ⟨2, 2, [.non],
    (.cons (.ret (.and2 (.call "is_integer" (.cons (.var 0) .nil)) (.and2 (.cmp .ge (.var 0) (.int 0)) (.or2 (.cmp .is (.var 1) .non) (.cmp .le (.var 0) (.var 1))))))
    .nil)⟩
def f_is_size : Fn := ⟨2, 2, [],
    (.cons (.ret (.and2 (.call "is_number" (.cons (.var 0) (.cons (.var 1) .nil))) (.cmp .gt (.var 0) (.int 0))))
    .nil)⟩
def f_is_sequence : Fn := ⟨1, 1, [],
    (.cons (.ret (.isi (.var 0) [("list", "list"), ("tuple", "tuple")]))
    .nil)⟩
def f_is_row : Fn := ⟨2, 4, [],
    (.cons (.ite (.or2 (.not1 (.bi .isinst (.cons (.var 0) (.cons (.tyn "tuple" "tuple") .nil)))) (.cmp .ne (.bi .len (.cons (.var 0) .nil)) (.bi .len (.cons (.var 1) .nil)))) (.cons (.ret (.bl false))
    .nil) .nil)
    (.cons (.ret (.bi .all (.cons (.lc [("one", 2), ("most", 3)] (.tp (.cons (.nm 2) (.cons (.nm 3) .nil))) (.zip (.var 0) (.var 1)) .none (.call "is_number" (.cons (.var 2) (.cons (.var 3) .nil)))) .nil)))
    .nil))⟩
def f_checked_kind : Fn := ⟨3, 8, [],
    (.cons (.ite (.or2 (.not1 (.call "is_sequence" (.cons (.var 0) .nil))) (.cmp .ne (.bi .len (.cons (.var 0) .nil)) (.int 3))) (.cons (.raise "InvalidTeam" (.cons (.tup (.cons (.var 1) (.cons (.str "kind") .nil))) .nil))
    .nil) .nil)
    (.cons (.asg (.tp (.cons (.nm 3) (.cons (.nm 4) (.cons (.nm 5) .nil)))) (.var 0))
    (.cons (.ite (.or2 (.not1 (.call "is_size" (.cons (.var 3) (.cons (.con "MOST_LOCALS" (.int 64)) .nil)))) (.not1 (.call "is_number" (.cons (.var 4) (.cons (.bin .sub (.var 3) (.int 1)) .nil))))) (.cons (.raise "InvalidTeam" (.cons (.tup (.cons (.var 1) (.cons (.str "kind") .nil))) .nil))
    .nil) .nil)
    (.cons (.ite (.or2 (.not1 (.call "is_sequence" (.cons (.var 5) .nil))) (.cmp .gt (.bi .len (.cons (.var 5) .nil)) (.con "MOST_STEPS" (.int 16384)))) (.cons (.raise "InvalidTeam" (.cons (.tup (.cons (.var 1) (.cons (.str "kind") .nil))) .nil))
    .nil) .nil)
    (.cons (.for_ (.tp (.cons (.nm 6) (.cons (.nm 7) .nil))) (.enum (.var 5)) (.cons (.ite (.or2 (.not1 (.call "is_row" (.cons (.var 7) (.cons (.tup (.cons (.bin .sub (.var 2) (.int 1)) (.cons (.bin .sub (.var 3) (.int 1)) (.cons (.bin .sub (.var 2) (.int 1)) (.cons (.bin .sub (.var 3) (.int 1)) .nil))))) .nil)))) (.and2 (.cmp .gt (.var 6) (.int 0)) (.cmp .le (.var 7) (.idx (.var 5) (.bin .sub (.var 6) (.int 1)))))) (.cons (.raise "InvalidTeam" (.cons (.tup (.cons (.var 1) (.cons (.var 6) .nil))) .nil))
    .nil) .nil)
    .nil))
    (.cons (.ret (.tup (.cons (.var 3) (.cons (.var 4) (.cons (.bi .tuple (.cons (.var 5) .nil)) .nil)))))
    .nil))))))⟩
def f_steps_from : Fn := ⟨1, 6, [],
    (.cons (.asg (.nm 1) .dnewT)
    (.cons (.for_ (.tp (.cons (.nm 2) (.cons (.nm 3) (.cons (.nm 4) (.cons (.nm 5) .nil))))) (.seq (.idx (.var 0) (.int 2))) (.cons (.putT (.var 1) (.cons (.var 2) (.cons (.var 3) .nil)) (.bin .add (.dgetT (.var 1) (.cons (.var 2) (.cons (.var 3) .nil)) (.tup .nil)) (.tup (.cons (.tup (.cons (.var 4) (.cons (.var 5) .nil))) .nil))))
    .nil))
    (.cons (.ret (.var 1))
    .nil)))⟩
def f_Team___init__ : Fn := ⟨5, 7, [],
    (.cons (.ite (.not1 (.call "is_size" (.cons (.var 1) (.cons (.con "MOST_STATES" (.int 256)) .nil)))) (.cons (.raise "InvalidTeam" (.cons (.str "states") .nil))
    .nil) .nil)
    (.cons (.ite (.not1 (.call "is_number" (.cons (.var 2) (.cons (.bin .sub (.var 1) (.int 1)) .nil)))) (.cons (.raise "InvalidTeam" (.cons (.str "start") .nil))
    .nil) .nil)
    (.cons (.ite (.not1 (.call "is_sequence" (.cons (.var 3) .nil))) (.cons (.raise "InvalidTeam" (.cons (.str "singles") .nil))
    .nil) .nil)
    (.cons (.ite (.not1 (.call "is_sequence" (.cons (.var 4) .nil))) (.cons (.raise "InvalidTeam" (.cons (.str "crowds") .nil))
    .nil) .nil)
    (.cons (.ite (.not1 (.chain .le .le (.int 1) (.bin .add (.bi .len (.cons (.var 3) .nil)) (.bi .len (.cons (.var 4) .nil))) (.con "MOST_KINDS" (.int 6)))) (.cons (.raise "InvalidTeam" (.cons (.str "kinds") .nil))
    .nil) .nil)
    (.cons (.sat "Team" (.var 0) "states" (.var 1))
    (.cons (.sat "Team" (.var 0) "start" (.var 2))
    (.cons (.sat "Team" (.var 0) "kinds" (.bi .tuple (.cons (.lc [("i", 5), ("kind", 6)] (.tp (.cons (.nm 5) (.cons (.nm 6) .nil))) (.enum (.bin .add (.bi .list (.cons (.var 3) .nil)) (.bi .list (.cons (.var 4) .nil)))) .none (.call "checked_kind" (.cons (.var 6) (.cons (.var 5) (.cons (.var 1) .nil))))) .nil)))
    (.cons (.sat "Team" (.var 0) "alone" (.bi .len (.cons (.var 3) .nil)))
    (.cons (.sat "Team" (.var 0) "singles" (.fz (.slc (.attr (.var 0) "kinds") .none (.some (.attr (.var 0) "alone")))))
    (.cons (.sat "Team" (.var 0) "crowds" (.fz (.slc (.attr (.var 0) "kinds") (.some (.attr (.var 0) "alone")) .none)))
    (.cons (.sat "Team" (.var 0) "froms" (.bi .tuple (.cons (.lc [("kind", 6)] (.nm 6) (.seq (.attr (.var 0) "kinds")) .none (.call "steps_from" (.cons (.var 6) .nil))) .nil)))
    .nil))))))))))))⟩
def f_moves_from : Fn := ⟨4, 4, [],
    (.cons (.ret (.dgetT (.idx (.attr (.var 0) "froms") (.var 2)) (.cons (.var 1) (.cons (.var 3) .nil)) (.tup .nil)))
    .nil)⟩
def f_is_step : Fn := ⟨5, 5, [],
    (.cons (.ret (.and2 (.call "is_row" (.cons (.var 4) (.cons (.tup (.cons (.bin .sub (.attr (.var 0) "states") (.int 1)) (.cons (.bin .sub (.idx (.idx (.attr (.var 0) "kinds") (.var 1)) (.int 0)) (.int 1)) .nil))) .nil))) (.cmp .inn (.var 4) (.call "moves_from" (.cons (.var 0) (.cons (.var 2) (.cons (.var 1) (.cons (.var 3) .nil))))))))
    .nil)⟩
def f_need_singles : Fn := ⟨1, 1, [],
    (.cons (.ite (.cmp .ne (.attr (.var 0) "crowds") (.tup .nil)) (.cons (.raise "Refused" (.cons (.str "crowds") .nil))
    .nil) .nil)
    .nil)⟩
def f_opening : Fn := ⟨1, 2, [],
    (.cons (.expr (.call "need_singles" (.cons (.var 0) .nil)))
    (.cons (.ret (.tup (.cons (.attr (.var 0) "start") (.cons (.bi .tuple (.cons (.lc [("kind", 1)] (.nm 1) (.seq (.attr (.var 0) "singles")) .none (.idx (.var 1) (.int 1))) .nil)) .nil))))
    .nil))⟩
def f_is_situation : Fn := ⟨2, 3, [],
    (.cons (.expr (.call "need_singles" (.cons (.var 0) .nil)))
    (.cons (.ite (.or2 (.not1 (.bi .isinst (.cons (.var 1) (.cons (.tyn "tuple" "tuple") .nil)))) (.or2 (.cmp .ne (.bi .len (.cons (.var 1) .nil)) (.int 2)) (.not1 (.call "is_number" (.cons (.idx (.var 1) (.int 0)) (.cons (.bin .sub (.attr (.var 0) "states") (.int 1)) .nil)))))) (.cons (.ret (.bl false))
    .nil) .nil)
    (.cons (.ret (.call "is_row" (.cons (.idx (.var 1) (.int 1)) (.cons (.fz (.lc [("kind", 2)] (.nm 2) (.seq (.attr (.var 0) "singles")) .none (.bin .sub (.idx (.var 2) (.int 0)) (.int 1)))) .nil))))
    .nil)))⟩
def f_is_rest : Fn := ⟨1, 1, [],
    (.cons (.ret (.and2 (.bi .isinst (.cons (.var 0) (.cons (.tyn "tuple" "tuple") .nil))) (.cmp .eq (.bi .len (.cons (.var 0) .nil)) (.int 0))))
    .nil)⟩
def f_moves_at : Fn := ⟨2, 7, [],
    (.cons (.expr (.call "need_singles" (.cons (.var 0) .nil)))
    (.cons (.asg (.nm 2) (.lst .nil))
    (.cons (.for_ (.tp (.cons (.nm 3) (.cons (.nm 4) .nil))) (.enum (.idx (.var 1) (.int 1))) (.cons (.expr (.me .ext (.var 2) (.cons (.lc [("t", 5), ("m", 6)] (.tp (.cons (.nm 5) (.cons (.nm 6) .nil))) (.seq (.call "moves_from" (.cons (.var 0) (.cons (.idx (.var 1) (.int 0)) (.cons (.var 3) (.cons (.var 4) .nil)))))) .none (.tup (.cons (.var 3) (.cons (.var 5) (.cons (.var 6) .nil))))) .nil)))
    .nil))
    (.cons (.ret (.bi .tuple (.cons (.var 2) .nil)))
    .nil))))⟩
def f_is_move_at : Fn := ⟨3, 3, [],
    (.cons (.expr (.call "need_singles" (.cons (.var 0) .nil)))
    (.cons (.ite (.call "is_rest" (.cons (.var 2) .nil)) (.cons (.ret (.bl true))
    .nil) .nil)
    (.cons (.ite (.not1 (.call "is_row" (.cons (.var 2) (.cons (.tup (.cons (.bin .sub (.attr (.var 0) "alone") (.int 1)) (.cons (.bin .sub (.attr (.var 0) "states") (.int 1)) (.cons (.int 63) .nil)))) .nil)))) (.cons (.ret (.bl false))
    .nil) .nil)
    (.cons (.ret (.call "is_step" (.cons (.var 0) (.cons (.idx (.var 2) (.int 0)) (.cons (.idx (.var 1) (.int 0)) (.cons (.idx (.idx (.var 1) (.int 1)) (.idx (.var 2) (.int 0))) (.cons (.fz (.slc (.var 2) (.some (.int 1)) .none)) .nil)))))))
    .nil))))⟩
def f_led : Fn := ⟨2, 5, [],
    (.cons (.ite (.cmp .eq (.var 1) (.con "REST" (.tup []))) (.cons (.ret (.var 0))
    .nil) .nil)
    (.cons (.asg (.tp (.cons (.nm 2) (.cons (.nm 3) (.cons (.nm 4) .nil)))) (.var 1))
    (.cons (.ret (.tup (.cons (.var 3) (.cons (.fz (.bin .add (.bin .add (.slc (.idx (.var 0) (.int 1)) .none (.some (.var 2))) (.tup (.cons (.var 4) .nil))) (.slc (.idx (.var 0) (.int 1)) (.some (.bin .add (.var 2) (.int 1))) .none))) .nil))))
    .nil)))⟩
def f_gone : Fn := ⟨3, 3, [],
    (.cons (.ite (.not1 (.call "is_move_at" (.cons (.var 0) (.cons (.var 1) (.cons (.var 2) .nil))))) (.cons (.raise "Refused" (.cons (.str "move") .nil))
    .nil) .nil)
    (.cons (.ret (.call "led" (.cons (.var 1) (.cons (.var 2) .nil))))
    .nil))⟩
def f_is_stuck : Fn := ⟨2, 2, [],
    (.cons (.ret (.cmp .eq (.call "moves_at" (.cons (.var 0) (.cons (.var 1) .nil))) (.tup .nil)))
    .nil)⟩
def f__law_well : Fn := ⟨1, 5, [],
    (.cons (.asg (.tp (.cons (.nm 1) (.cons (.nm 2) .nil))) (.tup (.cons (.int 50331) (.cons (.int 0) .nil))))
    (.cons (.for_ (.nm 3) (.seq (.slc (.var 0) .none (.some (.int 60)))) (.cons (.asg (.nm 4) (.bin .mod (.bi .int (.cons (.bin .add (.bin .mul (.int 2) (.bi .abs (.cons (.var 3) .nil))) (.bi .int (.cons (.cmp .lt (.var 3) (.int 0)) .nil))) .nil)) (.bin .pow (.int 10) (.int 60))))
    (.cons (.asg (.nm 2) (.bin .add (.bin .mul (.var 2) (.int 3)) (.var 4)))
    (.cons (.asg (.nm 1) (.bin .mod (.bi .int (.cons (.bin .add (.bin .add (.bin .mul (.var 1) (.int 48271)) (.bin .mod (.var 4) (.int 2147483563))) (.int 11)) .nil)) (.int 2147483647)))
    .nil))))
    (.cons (.ret (.lst (.cons (.var 2) (.cons (.var 1) (.cons (.int 0) .nil)))))
    .nil)))⟩
def f__law_dip : Fn := ⟨2, 3, [],
    (.cons (.ite (.cmp .gt (.idx (.var 0) (.int 0)) (.int 0)) (.cons (.asg (.nm 2) (.bin .mod (.bi .int (.cons (.idx (.var 0) (.int 0)) .nil)) (.var 1)))
    (.cons (.put (.var 0) (.int 0) (.bin .fdiv (.idx (.var 0) (.int 0)) (.var 1)))
    (.cons (.ret (.var 2))
    .nil))) .nil)
    (.cons (.put (.var 0) (.int 2) (.bin .add (.idx (.var 0) (.int 2)) (.int 1)))
    (.cons (.put (.var 0) (.int 1) (.bin .mod (.bi .int (.cons (.bin .add (.bin .add (.bin .mul (.idx (.var 0) (.int 1)) (.int 69621)) (.bin .mul (.int 88001) (.idx (.var 0) (.int 2)))) (.int 7)) .nil)) (.int 2147483647)))
    (.cons (.ret (.bin .mod (.bi .int (.cons (.bin .fdiv (.idx (.var 0) (.int 1)) (.int 16)) .nil)) (.var 1)))
    .nil))))⟩
def f__law_one : Fn := ⟨2, 2, [],
    (.cons (.ret (.idx (.var 1) (.call "_law_dip" (.cons (.var 0) (.cons (.bi .len (.cons (.var 1) .nil)) .nil)))))
    .nil)⟩
def f__law_like : Fn := ⟨2, 4, [],
    (.cons (.ite (.bi .isinst (.cons (.var 1) (.cons (.tyn "tuple" "tuple") .nil))) (.cons (.ret (.and2 (.bi .isinst (.cons (.var 0) (.cons (.tyn "tuple" "tuple") .nil))) (.and2 (.cmp .eq (.bi .len (.cons (.var 0) .nil)) (.bi .len (.cons (.var 1) .nil))) (.bi .all (.cons (.lc [("one", 2), ("other", 3)] (.tp (.cons (.nm 2) (.cons (.nm 3) .nil))) (.zip (.var 0) (.var 1)) .none (.call "_law_like" (.cons (.var 2) (.cons (.var 3) .nil)))) .nil)))))
    .nil) .nil)
    (.cons (.ite (.bi .isinst (.cons (.var 1) (.cons (.tyn "list" "list") .nil))) (.cons (.ret (.and2 (.bi .isinst (.cons (.var 0) (.cons (.tyn "list" "list") .nil))) (.and2 (.cmp .eq (.bi .len (.cons (.var 0) .nil)) (.bi .len (.cons (.var 1) .nil))) (.bi .all (.cons (.lc [("one", 2), ("other", 3)] (.tp (.cons (.nm 2) (.cons (.nm 3) .nil))) (.zip (.var 0) (.var 1)) .none (.call "_law_like" (.cons (.var 2) (.cons (.var 3) .nil)))) .nil)))))
    .nil) .nil)
    (.cons (.ite (.cmp .is (.var 1) .non) (.cons (.ret (.cmp .is (.var 0) .non))
    .nil) .nil)
    (.cons (.ite (.bi .isinst (.cons (.var 1) (.cons (.tyn "bool" "bool") .nil))) (.cons (.ret (.ite (.var 1) (.cmp .is (.var 0) (.bl true)) (.cmp .is (.var 0) (.bl false))))
    .nil) .nil)
    (.cons (.ite (.bi .isinst (.cons (.var 1) (.cons (.tyn "int" "int") .nil))) (.cons (.ret (.and2 (.bi .isinst (.cons (.var 0) (.cons (.tyn "int" "int") .nil))) (.and2 (.not1 (.bi .isinst (.cons (.var 0) (.cons (.tyn "bool" "bool") .nil)))) (.cmp .eq (.var 0) (.var 1)))))
    .nil) .nil)
    (.cons (.ret (.and2 (.bi .isinst (.cons (.var 0) (.cons (.tyn "str" "str") .nil))) (.and2 (.bi .isinst (.cons (.var 1) (.cons (.tyn "str" "str") .nil))) (.cmp .eq (.var 0) (.var 1)))))
    .nil))))))⟩
def f__law_kind : Fn := ⟨3, 7, [],
    (.cons (.asg (.nm 3) (.lst .nil))
    (.cons (.for_ (.nm 4) (.rng (.cons (.bin .add (.int 2) (.call "_law_dip" (.cons (.var 0) (.cons (.int 5) .nil)))) .nil)) (.cons (.asg (.nm 5) (.call "_law_dip" (.cons (.var 0) (.cons (.var 2) .nil))))
    (.cons (.asg (.nm 6) (.call "_law_one" (.cons (.var 0) (.cons (.fz (.lst (.cons (.bin .mod (.bi .int (.cons (.bin .add (.var 5) (.int 1)) .nil)) (.var 2)) (.cons (.bin .mod (.bi .int (.cons (.bin .add (.var 5) (.int 1)) .nil)) (.var 2)) (.cons (.var 5) (.cons (.int 0) .nil)))))) .nil))))
    (.cons (.expr (.app (.var 3) (.cons (.tup (.cons (.call "_law_dip" (.cons (.var 0) (.cons (.var 1) .nil))) (.cons (.var 5) (.cons (.call "_law_dip" (.cons (.var 0) (.cons (.var 1) .nil))) (.cons (.var 6) .nil))))) .nil)))
    .nil))))
    (.cons (.ret (.tup (.cons (.var 2) (.cons (.ite (.cmp .eq (.call "_law_dip" (.cons (.var 0) (.cons (.int 4) .nil))) (.int 0)) (.call "_law_dip" (.cons (.var 0) (.cons (.var 2) .nil))) (.int 0)) (.cons (.bi .tuple (.cons (.sset (.var 3)) .nil)) .nil)))))
    .nil)))⟩
def f__law_team : Fn := ⟨2, 9, [],
    (.cons (.par2 2 3 (.call "_law_dip" (.cons (.var 0) (.cons (.int 5) .nil))) (.bin .add (.int 1) (.call "_law_dip" (.cons (.var 0) (.cons (.var 1) .nil)))))
    (.cons (.asg (.tp (.cons (.nm 4) (.cons (.nm 5) .nil))) (.tup (.cons (.tup (.cons (.tup (.cons (.int 0) (.cons (.int 0) (.cons (.int 1) (.cons (.int 1) .nil))))) (.cons (.tup (.cons (.int 1) (.cons (.int 1) (.cons (.int 0) (.cons (.int 0) .nil))))) .nil))) (.cons (.tup (.cons (.tup (.cons (.int 0) (.cons (.int 0) (.cons (.int 1) (.cons (.int 1) .nil))))) (.cons (.tup (.cons (.int 1) (.cons (.int 0) (.cons (.int 1) (.cons (.int 0) .nil))))) (.cons (.tup (.cons (.int 1) (.cons (.int 1) (.cons (.int 0) (.cons (.int 0) .nil))))) .nil)))) .nil))))
    (.cons (.ite (.cmp .eq (.var 2) (.int 0)) (.cons (.ret (.tup (.cons (.int 2) (.cons (.int 0) (.cons (.fz (.bin .add (.bin .mul (.lst (.cons (.tup (.cons (.int 2) (.cons (.int 0) (.cons (.var 4) .nil)))) .nil)) (.var 3)) (.ite (.cmp .lt (.var 3) (.var 1)) (.lst (.cons (.tup (.cons (.int 2) (.cons (.int 0) (.cons (.var 5) .nil)))) .nil)) (.lst .nil)))) .nil)))))
    .nil) .nil)
    (.cons (.asg (.nm 6) (.bin .add (.int 1) (.call "_law_dip" (.cons (.var 0) (.cons (.int 3) .nil)))))
    (.cons (.asgLc 7 [("turn", 5)] (.nm 5) (.rng (.cons (.var 3) .nil)) .none (.call "_law_kind" (.cons (.var 0) (.cons (.var 6) (.cons (.bin .add (.int 1) (.call "_law_dip" (.cons (.var 0) (.cons (.int 3) .nil)))) .nil)))))
    (.cons (.ite (.cmp .eq (.var 2) (.int 1)) (.cons (.put (.var 7) (.int 0) (.tup (.cons (.int 1) (.cons (.int 0) (.cons (.bi .tuple (.cons (.lc [("s", 8)] (.nm 8) (.rng (.cons (.var 6) .nil)) .none (.tup (.cons (.var 8) (.cons (.int 0) (.cons (.bin .mod (.bi .int (.cons (.bin .add (.var 8) (.int 1)) .nil)) (.var 6)) (.cons (.int 0) .nil)))))) .nil)) .nil)))))
    .nil) .nil)
    (.cons (.ite (.and2 (.cmp .eq (.var 2) (.int 2)) (.cmp .gt (.var 6) (.int 1))) (.cons (.put (.var 7) (.int 0) (.tup (.cons (.int 2) (.cons (.int 0) (.cons (.var 4) .nil)))))
    .nil) .nil)
    (.cons (.ret (.tup (.cons (.var 6) (.cons (.call "_law_dip" (.cons (.var 0) (.cons (.var 6) .nil))) (.cons (.var 7) .nil)))))
    .nil))))))))⟩
def f__law_opening : Fn := ⟨2, 3, [],
    (.cons (.ret (.tup (.cons (.var 0) (.cons (.bi .tuple (.cons (.lc [("kind", 2)] (.nm 2) (.seq (.var 1)) .none (.idx (.var 2) (.int 1))) .nil)) .nil))))
    .nil)⟩
def f__law_moves : Fn := ⟨2, 6, [],
    (.cons (.asg (.nm 2) (.lst .nil))
    (.cons (.for_ (.tp (.cons (.nm 3) (.cons (.nm 4) .nil))) (.enum (.var 0)) (.cons (.expr (.me .ext (.var 2) (.cons (.lc [("step", 5)] (.nm 5) (.seq (.idx (.var 4) (.int 2))) (.some (.cmp .eq (.slc (.var 5) .none (.some (.int 2))) (.tup (.cons (.idx (.var 1) (.int 0)) (.cons (.idx (.idx (.var 1) (.int 1)) (.var 3)) .nil))))) (.tup (.cons (.var 3) (.cons (.idx (.var 5) (.int 2)) (.cons (.idx (.var 5) (.int 3)) .nil))))) .nil)))
    .nil))
    (.cons (.ret (.var 2))
    .nil)))⟩
def f__law_led : Fn := ⟨2, 2, [],
    (.cons (.ite (.cmp .eq (.var 1) (.tup .nil)) (.cons (.ret (.var 0))
    .nil) .nil)
    (.cons (.ret (.tup (.cons (.idx (.var 1) (.int 1)) (.cons (.fz (.bin .add (.bin .add (.slc (.idx (.var 0) (.int 1)) .none (.some (.idx (.var 1) (.int 0)))) (.tup (.cons (.idx (.var 1) (.int 2)) .nil))) (.slc (.idx (.var 0) (.int 1)) (.some (.bin .add (.idx (.var 1) (.int 0)) (.int 1))) .none))) .nil))))
    .nil))⟩
def f__law_any_there : Fn := ⟨3, 4, [],
    (.cons (.ret (.tup (.cons (.call "_law_dip" (.cons (.var 0) (.cons (.var 1) .nil))) (.cons (.bi .tuple (.cons (.lc [("kind", 3)] (.nm 3) (.seq (.var 2)) .none (.call "_law_dip" (.cons (.var 0) (.cons (.idx (.var 3) (.int 0)) .nil)))) .nil)) .nil))))
    .nil)⟩
def f__law_moves_told : Fn := ⟨5, 15, [],
    (.cons (.asg (.nm 5) (.fz (.call "_law_moves" (.cons (.var 3) (.cons (.var 4) .nil)))))
    (.cons (.ite (.or2 (.not1 (.call "_law_like" (.cons (.call "moves_at" (.cons (.var 1) (.cons (.var 4) .nil))) (.cons (.bi .tuple (.cons (.var 5) .nil)) .nil)))) (.not1 (.call "_law_like" (.cons (.call "is_stuck" (.cons (.var 1) (.cons (.var 4) .nil))) (.cons (.cmp .eq (.var 5) (.lst .nil)) .nil))))) (.cons (.ret (.bl false))
    .nil) .nil)
    (.cons (.for_ (.nm 6) (.seq (.bin .add (.var 5) (.lst (.cons (.tup .nil) .nil)))) (.cons (.asg (.nm 7) (.call "_law_led" (.cons (.var 4) (.cons (.var 6) .nil))))
    (.cons (.ite (.or2 (.cmp .isnot (.call "is_move_at" (.cons (.var 1) (.cons (.var 4) (.cons (.var 6) .nil)))) (.bl true)) (.not1 (.call "_law_like" (.cons (.call "gone" (.cons (.var 1) (.cons (.var 4) (.cons (.var 6) .nil)))) (.cons (.var 7) .nil))))) (.cons (.ret (.bl false))
    .nil) .nil)
    (.cons (.ite (.or2 (.not1 (.call "_law_like" (.cons (.call "led" (.cons (.var 4) (.cons (.var 6) .nil))) (.cons (.var 7) .nil)))) (.not1 (.call "_law_like" (.cons (.call "is_rest" (.cons (.var 6) .nil)) (.cons (.cmp .eq (.var 6) (.tup .nil)) .nil))))) (.cons (.ret (.bl false))
    .nil) .nil)
    .nil))))
    (.cons (.asg (.nm 8) (.call "_law_dip" (.cons (.var 0) (.cons (.bi .len (.cons (.var 3) .nil)) .nil))))
    (.cons (.asgLcF 9 [("turn", 13)] (.nm 13) (.rng (.cons (.int 4) .nil)) .none (.tup (.cons (.var 8) (.cons (.call "_law_dip" (.cons (.var 0) (.cons (.var 2) .nil))) (.cons (.call "_law_dip" (.cons (.var 0) (.cons (.idx (.idx (.var 3) (.var 8)) (.int 0)) .nil))) .nil)))))
    (.cons (.asg (.nm 9) (.fz (.bin .add (.var 9) (.lst (.cons (.tup (.cons (.bi .len (.cons (.var 3) .nil)) (.cons (.int 0) (.cons (.int 0) .nil)))) (.cons (.tup (.cons (.bin .sub (.int 0) (.int 1)) (.cons (.int 0) (.cons (.int 0) .nil)))) (.cons (.tup (.cons (.var 8) (.cons (.var 2) (.cons (.int 0) .nil)))) (.cons (.tup (.cons (.var 8) (.cons (.int 0) (.cons (.int 64) .nil)))) (.cons .non (.cons (.fz (.lst .nil)) (.cons (.int 0) (.cons (.str "rest") (.cons (.tup (.cons (.var 8) .nil)) (.cons (.tup (.cons (.tup .nil) .nil)) .nil))))))))))))))
    (.cons (.ite (.cmp .ne (.var 5) (.lst .nil)) (.cons (.asg (.nm 10) (.call "_law_one" (.cons (.var 0) (.cons (.var 5) .nil))))
    (.cons (.asg (.nm 9) (.fz (.bin .add (.var 9) (.lst (.cons (.fz (.bi .list (.cons (.var 10) .nil))) (.cons (.fz (.slc (.var 10) .none (.some (.int 2)))) (.cons (.bin .add (.var 10) (.tup (.cons (.int 0) .nil))) (.cons (.bin .add (.tup (.cons (.cmp .eq (.idx (.var 10) (.int 0)) (.int 1)) .nil)) (.slc (.var 10) (.some (.int 1)) .none)) (.cons (.tup (.cons (.idx (.var 10) (.int 0)) (.cons (.cmp .eq (.idx (.var 10) (.int 1)) (.int 1)) (.cons (.idx (.var 10) (.int 2)) .nil)))) (.cons (.bin .add (.slc (.var 10) .none (.some (.int 2))) (.tup (.cons (.cmp .eq (.idx (.var 10) (.int 2)) (.int 1)) .nil))) .nil))))))))))
    .nil)) .nil)
    (.cons (.for_ (.nm 11) (.seq (.var 9)) (.cons (.asg (.nm 12) (.and2 (.bi .isinst (.cons (.var 11) (.cons (.tyn "tuple" "tuple") .nil))) (.and2 (.cmp .inn (.var 11) (.var 5)) (.not1 (.bi .any (.cons (.lc [("part", 14)] (.nm 14) (.seq (.var 11)) .none (.bi .isinst (.cons (.var 14) (.cons (.tyn "bool" "bool") .nil)))) .nil))))))
    (.cons (.ite (.or2 (.not1 (.call "_law_like" (.cons (.call "is_move_at" (.cons (.var 1) (.cons (.var 4) (.cons (.var 11) .nil)))) (.cons (.var 12) .nil)))) (.cmp .isnot (.call "is_rest" (.cons (.var 11) .nil)) (.bl false))) (.cons (.ret (.bl false))
    .nil) .nil)
    (.cons (.ite (.and2 (.not1 (.var 12)) (.cmp .ne (.heard2 "_law_heard" "Refused" (.call "gone" (.cons (.var 1) (.cons (.var 4) (.cons (.var 11) .nil))))) (.str "move"))) (.cons (.ret (.bl false))
    .nil) .nil)
    .nil))))
    (.cons (.ret (.bl true))
    .nil)))))))))⟩
def f__law_odd_theres : Fn := ⟨3, 9, [],
    (.cons (.asg (.tp (.cons (.nm 3) (.cons (.nm 4) .nil))) (.var 0))
    (.cons (.asg (.nm 5) (.lst (.cons .non (.cons (.int 0) (.cons (.str "") (.cons (.tup .nil) (.cons (.tup (.cons (.var 3) .nil)) (.cons (.bin .add (.var 0) (.tup (.cons (.int 0) .nil))) (.cons (.fz (.bi .list (.cons (.var 0) .nil))) (.cons (.tup (.cons (.var 3) (.cons (.fz (.bi .list (.cons (.var 4) .nil))) .nil))) (.cons (.tup (.cons (.var 3) (.cons (.bin .add (.var 4) (.tup (.cons (.int 0) .nil))) .nil))) (.cons (.tup (.cons (.var 3) (.cons (.fz (.slc (.var 4) (.some (.int 1)) .none)) .nil))) (.cons (.tup (.cons (.var 1) (.cons (.var 4) .nil))) (.cons (.tup (.cons (.bin .sub (.int 0) (.int 1)) (.cons (.var 4) .nil))) .nil))))))))))))))
    (.cons (.asg (.nm 5) (.bin .add (.var 5) (.lst (.cons (.tup (.cons (.cmp .eq (.var 3) (.int 1)) (.cons (.var 4) .nil))) (.cons (.tup (.cons .non (.cons (.var 4) .nil))) (.cons (.tup (.cons (.var 3) (.cons .non .nil))) .nil))))))
    (.cons (.for_ (.tp (.cons (.nm 6) (.cons (.nm 7) .nil))) (.enum (.var 2)) (.cons (.for_ (.nm 8) (.seq (.lst (.cons (.idx (.var 7) (.int 0)) (.cons (.bin .sub (.int 0) (.int 1)) (.cons .non (.cons (.cmp .eq (.idx (.var 4) (.var 6)) (.int 1)) (.cons (.tup (.cons (.idx (.var 4) (.var 6)) .nil)) .nil))))))) (.cons (.expr (.app (.var 5) (.cons (.tup (.cons (.var 3) (.cons (.fz (.bin .add (.bin .add (.slc (.var 4) .none (.some (.var 6))) (.tup (.cons (.var 8) .nil))) (.slc (.var 4) (.some (.bin .add (.var 6) (.int 1))) .none))) .nil))) .nil)))
    .nil))
    .nil))
    (.cons (.ret (.var 5))
    .nil)))))⟩
def f_law : Fn := ⟨1, 14, [],
    (.cons (.asg (.nm 1) (.call "_law_well" (.cons (.var 0) .nil)))
    (.cons (.asg (.tp (.cons (.nm 2) (.cons (.nm 3) (.cons (.nm 4) .nil)))) (.call "_law_team" (.cons (.var 1) (.cons (.int 3) .nil))))
    (.cons (.asg (.nm 5) (.new "Team" "Team.__init__" (.cons (.var 2) (.cons (.var 3) (.cons (.var 4) (.cons (.tup .nil) .nil))))))
    (.cons (.asg (.nm 6) (.call "_law_opening" (.cons (.var 3) (.cons (.var 4) .nil))))
    (.cons (.ite (.not1 (.call "_law_like" (.cons (.call "opening" (.cons (.var 5) .nil)) (.cons (.var 6) .nil)))) (.cons (.ret (.bl false))
    .nil) .nil)
    (.cons (.asg (.nm 7) (.var 6))
    (.cons (.for_ (.nm 8) (.rng (.cons (.int 6) .nil)) (.cons (.ite (.or2 (.cmp .isnot (.call "is_situation" (.cons (.var 5) (.cons (.var 7) .nil))) (.bl true)) (.not1 (.call "_law_moves_told" (.cons (.var 1) (.cons (.var 5) (.cons (.var 2) (.cons (.var 4) (.cons (.var 7) .nil)))))))) (.cons (.ret (.bl false))
    .nil) .nil)
    (.cons (.asg (.nm 9) (.fz (.call "_law_moves" (.cons (.var 4) (.cons (.var 7) .nil)))))
    (.cons (.asg (.nm 7) (.ite (.or2 (.cmp .eq (.var 9) (.lst .nil)) (.cmp .eq (.call "_law_dip" (.cons (.var 1) (.cons (.int 3) .nil))) (.int 0))) (.call "_law_any_there" (.cons (.var 1) (.cons (.var 2) (.cons (.var 4) .nil)))) (.call "_law_led" (.cons (.var 7) (.cons (.call "_law_one" (.cons (.var 1) (.cons (.var 9) .nil))) .nil)))))
    .nil))))
    (.cons (.ite (.bi .any (.cons (.lc [("value", 12)] (.nm 12) (.seq (.call "_law_odd_theres" (.cons (.var 7) (.cons (.var 2) (.cons (.var 4) .nil))))) .none (.cmp .isnot (.call "is_situation" (.cons (.var 5) (.cons (.var 12) .nil))) (.bl false))) .nil)) (.cons (.ret (.bl false))
    .nil) .nil)
    (.cons (.asg (.nm 10) (.new "Team" "Team.__init__" (.cons (.var 2) (.cons (.var 3) (.cons (.var 4) (.cons (.tup (.cons (.idx (.var 4) (.int 0)) .nil)) .nil))))))
    (.wk "_law_heard" "Refused" "crowds" 11 13 (.cons (.call "opening" (.cons (.var 10) .nil)) (.cons (.call "is_situation" (.cons (.var 10) (.cons .non .nil))) (.cons (.call "moves_at" (.cons (.var 10) (.cons (.var 7) .nil))) (.cons (.call "is_stuck" (.cons (.var 10) (.cons (.var 7) .nil))) (.cons (.call "is_move_at" (.cons (.var 10) (.cons (.var 7) (.cons (.tup .nil) .nil)))) (.cons (.call "gone" (.cons (.var 10) (.cons (.var 7) (.cons .non .nil)))) .nil))))))))))))))))⟩
def fnL : List (Str × Fn) := [("is_integer", f_is_integer), ("is_number", f_is_number), ("is_size", f_is_size), ("is_sequence", f_is_sequence), ("is_row", f_is_row), ("checked_kind", f_checked_kind), ("steps_from", f_steps_from), ("Team.__init__", f_Team___init__), ("moves_from", f_moves_from), ("is_step", f_is_step), ("need_singles", f_need_singles), ("opening", f_opening), ("is_situation", f_is_situation), ("is_rest", f_is_rest), ("moves_at", f_moves_at), ("is_move_at", f_is_move_at), ("led", f_led), ("gone", f_gone), ("is_stuck", f_is_stuck), ("_law_well", f__law_well), ("_law_dip", f__law_dip), ("_law_one", f__law_one), ("_law_like", f__law_like), ("_law_kind", f__law_kind), ("_law_team", f__law_team), ("_law_opening", f__law_opening), ("_law_moves", f__law_moves), ("_law_led", f__law_led), ("_law_any_there", f__law_any_there), ("_law_moves_told", f__law_moves_told), ("_law_odd_theres", f__law_odd_theres), ("law", f_law)]
def fns : Str → Option Fn := look fnL
def cns : Str → Option D := fun x =>
  if x = "MOST_STATES" then some (.int 256) else
  if x = "MOST_LOCALS" then some (.int 64) else
  if x = "MOST_STEPS" then some (.int 16384) else
  if x = "MOST_KINDS" then some (.int 6) else
  if x = "REST" then some (.tup []) else
  none
def xcn : Str → Bool := fun x => decide (x ∈ (["InvalidTeam", "Refused"] : List Str))
def hdn : Str → Option Str := fun x =>
  none
def hd2n : Str → Option Str := fun x =>
  if x = "_law_heard" then some "Refused" else
  none
def mtn : Str → Option Str := fun x =>
  if x = "Team.__init__" then some "Team" else
  none
def nfL : List (Str × Str) := [("Team", "alone"), ("Team", "crowds"), ("Team", "froms"), ("Team", "kinds"), ("Team", "singles"), ("Team", "start"), ("Team", "states")]
def nfn : Str → Str → Bool := fun c f => decide ((c, f) ∈ nfL)
def tbl : Tab := ⟨fns, cns, xcn, hdn, hd2n, mtn, nfn, false⟩
/-! ### names and checks -/
theorem sc_is_integer : FnScope ["value"] ["value"] (defScope st_is_integer) := ⟨rfl, rfl, rfl, by decide +kernel, rfl, by decide +kernel, by decide +kernel⟩
theorem sc_is_number : FnScope ["value", "most"] ["value", "most"] (defScope st_is_number) := ⟨rfl, rfl, rfl, by decide +kernel, rfl, by decide +kernel, by decide +kernel⟩
theorem sc_is_size : FnScope ["value", "most"] ["value", "most"] (defScope st_is_size) := ⟨rfl, rfl, rfl, by decide +kernel, rfl, by decide +kernel, by decide +kernel⟩
theorem sc_is_sequence : FnScope ["value"] ["value"] (defScope st_is_sequence) := ⟨rfl, rfl, rfl, by decide +kernel, rfl, by decide +kernel, by decide +kernel⟩
theorem sc_is_row : FnScope ["value", "mosts", "one", "most"] ["value", "mosts"] (defScope st_is_row) := ⟨rfl, rfl, rfl, by decide +kernel, rfl, by decide +kernel, by decide +kernel⟩
theorem sc_checked_kind : FnScope ["value", "i", "states", "many", "begin", "steps", "n", "step"] ["value", "i", "states"] (defScope st_checked_kind) := ⟨rfl, rfl, rfl, by decide +kernel, rfl, by decide +kernel, by decide +kernel⟩
theorem sc_steps_from : FnScope ["kind", "found", "s", "l", "t", "m"] ["kind"] (defScope st_steps_from) := ⟨rfl, rfl, rfl, by decide +kernel, rfl, by decide +kernel, by decide +kernel⟩
theorem sc_Team___init__ : FnScope ["self", "states", "start", "singles", "crowds", "i", "kind"] ["self", "states", "start", "singles", "crowds"] (defScope st_Team___init__) := ⟨rfl, rfl, rfl, by decide +kernel, rfl, by decide +kernel, by decide +kernel⟩
theorem sc_moves_from : FnScope ["team", "s", "i", "l"] ["team", "s", "i", "l"] (defScope st_moves_from) := ⟨rfl, rfl, rfl, by decide +kernel, rfl, by decide +kernel, by decide +kernel⟩
theorem sc_is_step : FnScope ["team", "i", "s", "l", "value"] ["team", "i", "s", "l", "value"] (defScope st_is_step) := ⟨rfl, rfl, rfl, by decide +kernel, rfl, by decide +kernel, by decide +kernel⟩
theorem sc_need_singles : FnScope ["team"] ["team"] (defScope st_need_singles) := ⟨rfl, rfl, rfl, by decide +kernel, rfl, by decide +kernel, by decide +kernel⟩
theorem sc_opening : FnScope ["team", "kind"] ["team"] (defScope st_opening) := ⟨rfl, rfl, rfl, by decide +kernel, rfl, by decide +kernel, by decide +kernel⟩
theorem sc_is_situation : FnScope ["team", "value", "kind"] ["team", "value"] (defScope st_is_situation) := ⟨rfl, rfl, rfl, by decide +kernel, rfl, by decide +kernel, by decide +kernel⟩
theorem sc_is_rest : FnScope ["value"] ["value"] (defScope st_is_rest) := ⟨rfl, rfl, rfl, by decide +kernel, rfl, by decide +kernel, by decide +kernel⟩
theorem sc_moves_at : FnScope ["team", "situation", "found", "i", "l", "t", "m"] ["team", "situation"] (defScope st_moves_at) := ⟨rfl, rfl, rfl, by decide +kernel, rfl, by decide +kernel, by decide +kernel⟩
theorem sc_is_move_at : FnScope ["team", "situation", "value"] ["team", "situation", "value"] (defScope st_is_move_at) := ⟨rfl, rfl, rfl, by decide +kernel, rfl, by decide +kernel, by decide +kernel⟩
theorem sc_led : FnScope ["situation", "move", "i", "t", "m"] ["situation", "move"] (defScope st_led) := ⟨rfl, rfl, rfl, by decide +kernel, rfl, by decide +kernel, by decide +kernel⟩
theorem sc_gone : FnScope ["team", "situation", "move"] ["team", "situation", "move"] (defScope st_gone) := ⟨rfl, rfl, rfl, by decide +kernel, rfl, by decide +kernel, by decide +kernel⟩
theorem sc_is_stuck : FnScope ["team", "situation"] ["team", "situation"] (defScope st_is_stuck) := ⟨rfl, rfl, rfl, by decide +kernel, rfl, by decide +kernel, by decide +kernel⟩
theorem sc__law_well : FnScope ["script", "stir", "great", "cell", "one"] ["script"] (defScope st__law_well) := ⟨rfl, rfl, rfl, by decide +kernel, rfl, by decide +kernel, by decide +kernel⟩
theorem sc__law_dip : FnScope ["well", "many", "digit"] ["well", "many"] (defScope st__law_dip) := ⟨rfl, rfl, rfl, by decide +kernel, rfl, by decide +kernel, by decide +kernel⟩
theorem sc__law_one : FnScope ["well", "some"] ["well", "some"] (defScope st__law_one) := ⟨rfl, rfl, rfl, by decide +kernel, rfl, by decide +kernel, by decide +kernel⟩
theorem sc__law_like : FnScope ["told", "due", "one", "other"] ["told", "due"] (defScope st__law_like) := ⟨rfl, rfl, rfl, by decide +kernel, rfl, by decide +kernel, by decide +kernel⟩
theorem sc__law_heard : FnScope ["work", "error"] ["work"] (defScope st__law_heard) := ⟨rfl, rfl, rfl, by decide +kernel, rfl, by decide +kernel, by decide +kernel⟩
theorem sc__law_kind : FnScope ["well", "states", "size", "steps", "turn", "l", "to"] ["well", "states", "size"] (defScope st__law_kind) := ⟨rfl, rfl, rfl, by decide +kernel, rfl, by decide +kernel, by decide +kernel⟩
theorem sc__law_team : FnScope ["well", "most", "way", "many", "wait", "turn", "states", "kinds", "s"] ["well", "most"] (defScope st__law_team) := ⟨rfl, rfl, rfl, by decide +kernel, rfl, by decide +kernel, by decide +kernel⟩
theorem sc__law_opening : FnScope ["start", "kinds", "kind"] ["start", "kinds"] (defScope st__law_opening) := ⟨rfl, rfl, rfl, by decide +kernel, rfl, by decide +kernel, by decide +kernel⟩
theorem sc__law_moves : FnScope ["kinds", "there", "found", "i", "kind", "step"] ["kinds", "there"] (defScope st__law_moves) := ⟨rfl, rfl, rfl, by decide +kernel, rfl, by decide +kernel, by decide +kernel⟩
theorem sc__law_led : FnScope ["there", "move"] ["there", "move"] (defScope st__law_led) := ⟨rfl, rfl, rfl, by decide +kernel, rfl, by decide +kernel, by decide +kernel⟩
theorem sc__law_any_there : FnScope ["well", "states", "kinds", "kind"] ["well", "states", "kinds"] (defScope st__law_any_there) := ⟨rfl, rfl, rfl, by decide +kernel, rfl, by decide +kernel, by decide +kernel⟩
theorem sc__law_moves_told : FnScope ["well", "team", "states", "kinds", "there", "moves", "move", "behind", "i", "odd", "one", "value", "due", "turn", "part"] ["well", "team", "states", "kinds", "there"] (defScope st__law_moves_told) := ⟨rfl, rfl, rfl, by decide +kernel, rfl, by decide +kernel, by decide +kernel⟩
theorem sc__law_odd_theres : FnScope ["there", "states", "kinds", "state", "now", "odd", "i", "kind", "wrong"] ["there", "states", "kinds"] (defScope st__law_odd_theres) := ⟨rfl, rfl, rfl, by decide +kernel, rfl, by decide +kernel, by decide +kernel⟩
theorem sc_law : FnScope ["script", "well", "states", "start", "kinds", "team", "first", "there", "turn", "moves", "crowded", "works", "value", "work"] ["script"] (defScope st_law) := ⟨rfl, rfl, rfl, by decide +kernel, rfl, by decide +kernel, by decide +kernel⟩
theorem ck_is_integer : ckSs (tbl.flag false) (defScope st_is_integer) (fun _ => true) ["value"] f_is_integer.body (defBody st_is_integer) = true := by decide +kernel
theorem ck_is_number : ckSs (tbl.flag false) (defScope st_is_number) (fun _ => true) ["value", "most"] f_is_number.body (defBody st_is_number) = true := by decide +kernel
theorem ck_is_size : ckSs (tbl.flag false) (defScope st_is_size) (fun _ => true) ["value", "most"] f_is_size.body (defBody st_is_size) = true := by decide +kernel
theorem ck_is_sequence : ckSs (tbl.flag false) (defScope st_is_sequence) (fun _ => true) ["value"] f_is_sequence.body (defBody st_is_sequence) = true := by decide +kernel
theorem ck_is_row : ckSs (tbl.flag false) (defScope st_is_row) (fun _ => true) ["value", "mosts", "one", "most"] f_is_row.body (defBody st_is_row) = true := by decide +kernel
theorem ck_checked_kind : ckSs (tbl.flag false) (defScope st_checked_kind) (fun _ => true) ["value", "i", "states", "many", "begin", "steps", "n", "step"] f_checked_kind.body (defBody st_checked_kind) = true := by decide +kernel
theorem ck_steps_from : ckSs (tbl.flag false) (defScope st_steps_from) (fun _ => true) ["kind", "found", "s", "l", "t", "m"] f_steps_from.body (defBody st_steps_from) = true := by decide +kernel
theorem ck_Team___init__ : ckSs (tbl.flag false) (defScope st_Team___init__) (fun _ => true) ["self", "states", "start", "singles", "crowds", "i", "kind"] f_Team___init__.body (defBody st_Team___init__) = true := by decide +kernel
theorem ck_moves_from : ckSs (tbl.flag false) (defScope st_moves_from) (fun _ => true) ["team", "s", "i", "l"] f_moves_from.body (defBody st_moves_from) = true := by decide +kernel
theorem ck_is_step : ckSs (tbl.flag false) (defScope st_is_step) (fun _ => true) ["team", "i", "s", "l", "value"] f_is_step.body (defBody st_is_step) = true := by decide +kernel
theorem ck_need_singles : ckSs (tbl.flag false) (defScope st_need_singles) (fun _ => true) ["team"] f_need_singles.body (defBody st_need_singles) = true := by decide +kernel
theorem ck_opening : ckSs (tbl.flag false) (defScope st_opening) (fun _ => true) ["team", "kind"] f_opening.body (defBody st_opening) = true := by decide +kernel
theorem ck_is_situation : ckSs (tbl.flag false) (defScope st_is_situation) (fun _ => true) ["team", "value", "kind"] f_is_situation.body (defBody st_is_situation) = true := by decide +kernel
theorem ck_is_rest : ckSs (tbl.flag false) (defScope st_is_rest) (fun _ => true) ["value"] f_is_rest.body (defBody st_is_rest) = true := by decide +kernel
theorem ck_moves_at : ckSs (tbl.flag false) (defScope st_moves_at) (fun _ => true) ["team", "situation", "found", "i", "l", "t", "m"] f_moves_at.body (defBody st_moves_at) = true := by decide +kernel
theorem ck_is_move_at : ckSs (tbl.flag false) (defScope st_is_move_at) (fun _ => true) ["team", "situation", "value"] f_is_move_at.body (defBody st_is_move_at) = true := by decide +kernel
theorem ck_led : ckSs (tbl.flag false) (defScope st_led) (fun _ => true) ["situation", "move", "i", "t", "m"] f_led.body (defBody st_led) = true := by decide +kernel
theorem ck_gone : ckSs (tbl.flag false) (defScope st_gone) (fun _ => true) ["team", "situation", "move"] f_gone.body (defBody st_gone) = true := by decide +kernel
theorem ck_is_stuck : ckSs (tbl.flag false) (defScope st_is_stuck) (fun _ => true) ["team", "situation"] f_is_stuck.body (defBody st_is_stuck) = true := by decide +kernel
theorem ck__law_well : ckSs (tbl.flag false) (defScope st__law_well) (fun _ => true) ["script", "stir", "great", "cell", "one"] f__law_well.body (defBody st__law_well) = true := by decide +kernel
theorem ck__law_dip : ckSs (tbl.flag false) (defScope st__law_dip) (fun _ => true) ["well", "many", "digit"] f__law_dip.body (defBody st__law_dip) = true := by decide +kernel
theorem ck__law_one : ckSs (tbl.flag false) (defScope st__law_one) (fun _ => true) ["well", "some"] f__law_one.body (defBody st__law_one) = true := by decide +kernel
theorem ck__law_like : ckSs (tbl.flag false) (defScope st__law_like) (fun _ => true) ["told", "due", "one", "other"] f__law_like.body (defBody st__law_like) = true := by decide +kernel
theorem ck__law_kind : ckSs (tbl.flag false) (defScope st__law_kind) (fun _ => true) ["well", "states", "size", "steps", "turn", "l", "to"] f__law_kind.body (defBody st__law_kind) = true := by decide +kernel
theorem ck__law_team : ckSs (tbl.flag false) (defScope st__law_team) (fun _ => true) ["well", "most", "way", "many", "wait", "turn", "states", "kinds", "s"] f__law_team.body (defBody st__law_team) = true := by decide +kernel
theorem ck__law_opening : ckSs (tbl.flag false) (defScope st__law_opening) (fun _ => true) ["start", "kinds", "kind"] f__law_opening.body (defBody st__law_opening) = true := by decide +kernel
theorem ck__law_moves : ckSs (tbl.flag false) (defScope st__law_moves) (fun _ => true) ["kinds", "there", "found", "i", "kind", "step"] f__law_moves.body (defBody st__law_moves) = true := by decide +kernel
theorem ck__law_led : ckSs (tbl.flag false) (defScope st__law_led) (fun _ => true) ["there", "move"] f__law_led.body (defBody st__law_led) = true := by decide +kernel
theorem ck__law_any_there : ckSs (tbl.flag false) (defScope st__law_any_there) (fun _ => true) ["well", "states", "kinds", "kind"] f__law_any_there.body (defBody st__law_any_there) = true := by decide +kernel
theorem ck__law_moves_told : ckSs (tbl.flag true) (defScope st__law_moves_told) (fun _ => true) ["well", "team", "states", "kinds", "there", "moves", "move", "behind", "i", "odd", "one", "value", "due", "turn", "part"] f__law_moves_told.body (defBody st__law_moves_told) = true := by decide +kernel
theorem ck__law_odd_theres : ckSs (tbl.flag false) (defScope st__law_odd_theres) (fun _ => true) ["there", "states", "kinds", "state", "now", "odd", "i", "kind", "wrong"] f__law_odd_theres.body (defBody st__law_odd_theres) = true := by decide +kernel
theorem ck_law : ckSs (tbl.flag true) (defScope st_law) (fun _ => true) ["script", "well", "states", "start", "kinds", "team", "first", "there", "turn", "moves", "crowded", "works", "value", "work"] f_law.body (defBody st_law) = true := by decide +kernel
theorem tbl_is_integer : tbl "is_integer" = some f_is_integer := by kernel_rfl
theorem tbl_is_number : tbl "is_number" = some f_is_number := by kernel_rfl
theorem tbl_is_size : tbl "is_size" = some f_is_size := by kernel_rfl
theorem tbl_is_sequence : tbl "is_sequence" = some f_is_sequence := by kernel_rfl
theorem tbl_is_row : tbl "is_row" = some f_is_row := by kernel_rfl
theorem tbl_checked_kind : tbl "checked_kind" = some f_checked_kind := by kernel_rfl
theorem tbl_steps_from : tbl "steps_from" = some f_steps_from := by kernel_rfl
theorem tbl_Team___init__ : tbl "Team.__init__" = some f_Team___init__ := by kernel_rfl
theorem tbl_moves_from : tbl "moves_from" = some f_moves_from := by kernel_rfl
theorem tbl_is_step : tbl "is_step" = some f_is_step := by kernel_rfl
theorem tbl_need_singles : tbl "need_singles" = some f_need_singles := by kernel_rfl
theorem tbl_opening : tbl "opening" = some f_opening := by kernel_rfl
theorem tbl_is_situation : tbl "is_situation" = some f_is_situation := by kernel_rfl
theorem tbl_is_rest : tbl "is_rest" = some f_is_rest := by kernel_rfl
theorem tbl_moves_at : tbl "moves_at" = some f_moves_at := by kernel_rfl
theorem tbl_is_move_at : tbl "is_move_at" = some f_is_move_at := by kernel_rfl
theorem tbl_led : tbl "led" = some f_led := by kernel_rfl
theorem tbl_gone : tbl "gone" = some f_gone := by kernel_rfl
theorem tbl_is_stuck : tbl "is_stuck" = some f_is_stuck := by kernel_rfl
theorem tbl__law_well : tbl "_law_well" = some f__law_well := by kernel_rfl
theorem tbl__law_dip : tbl "_law_dip" = some f__law_dip := by kernel_rfl
theorem tbl__law_one : tbl "_law_one" = some f__law_one := by kernel_rfl
theorem tbl__law_like : tbl "_law_like" = some f__law_like := by kernel_rfl
theorem tbl__law_kind : tbl "_law_kind" = some f__law_kind := by kernel_rfl
theorem tbl__law_team : tbl "_law_team" = some f__law_team := by kernel_rfl
theorem tbl__law_opening : tbl "_law_opening" = some f__law_opening := by kernel_rfl
theorem tbl__law_moves : tbl "_law_moves" = some f__law_moves := by kernel_rfl
theorem tbl__law_led : tbl "_law_led" = some f__law_led := by kernel_rfl
theorem tbl__law_any_there : tbl "_law_any_there" = some f__law_any_there := by kernel_rfl
theorem tbl__law_moves_told : tbl "_law_moves_told" = some f__law_moves_told := by kernel_rfl
theorem tbl__law_odd_theres : tbl "_law_odd_theres" = some f__law_odd_theres := by kernel_rfl
theorem tbl_law : tbl "law" = some f_law := by kernel_rfl
theorem mt_is_integer : tbl.mt "is_integer" = none := by kernel_rfl
theorem mt_is_number : tbl.mt "is_number" = none := by kernel_rfl
theorem mt_is_size : tbl.mt "is_size" = none := by kernel_rfl
theorem mt_is_sequence : tbl.mt "is_sequence" = none := by kernel_rfl
theorem mt_is_row : tbl.mt "is_row" = none := by kernel_rfl
theorem mt_checked_kind : tbl.mt "checked_kind" = none := by kernel_rfl
theorem mt_steps_from : tbl.mt "steps_from" = none := by kernel_rfl
theorem mt_Team___init__ : tbl.mt "Team.__init__" = some "Team" := by kernel_rfl
theorem mt_moves_from : tbl.mt "moves_from" = none := by kernel_rfl
theorem mt_is_step : tbl.mt "is_step" = none := by kernel_rfl
theorem mt_need_singles : tbl.mt "need_singles" = none := by kernel_rfl
theorem mt_opening : tbl.mt "opening" = none := by kernel_rfl
theorem mt_is_situation : tbl.mt "is_situation" = none := by kernel_rfl
theorem mt_is_rest : tbl.mt "is_rest" = none := by kernel_rfl
theorem mt_moves_at : tbl.mt "moves_at" = none := by kernel_rfl
theorem mt_is_move_at : tbl.mt "is_move_at" = none := by kernel_rfl
theorem mt_led : tbl.mt "led" = none := by kernel_rfl
theorem mt_gone : tbl.mt "gone" = none := by kernel_rfl
theorem mt_is_stuck : tbl.mt "is_stuck" = none := by kernel_rfl
theorem mt__law_well : tbl.mt "_law_well" = none := by kernel_rfl
theorem mt__law_dip : tbl.mt "_law_dip" = none := by kernel_rfl
theorem mt__law_one : tbl.mt "_law_one" = none := by kernel_rfl
theorem mt__law_like : tbl.mt "_law_like" = none := by kernel_rfl
theorem mt__law_heard : tbl.mt "_law_heard" = none := by kernel_rfl
theorem mt__law_kind : tbl.mt "_law_kind" = none := by kernel_rfl
theorem mt__law_team : tbl.mt "_law_team" = none := by kernel_rfl
theorem mt__law_opening : tbl.mt "_law_opening" = none := by kernel_rfl
theorem mt__law_moves : tbl.mt "_law_moves" = none := by kernel_rfl
theorem mt__law_led : tbl.mt "_law_led" = none := by kernel_rfl
theorem mt__law_any_there : tbl.mt "_law_any_there" = none := by kernel_rfl
theorem mt__law_moves_told : tbl.mt "_law_moves_told" = none := by kernel_rfl
theorem mt__law_odd_theres : tbl.mt "_law_odd_theres" = none := by kernel_rfl
theorem mt_law : tbl.mt "law" = none := by kernel_rfl
theorem h2__law_heard : defBody st__law_heard = h2Body "work" "error" "FairError" "Refused" "other" "none" 0 0 (h2P (defBody st__law_heard)) := by kernel_rfl
end K08
end
section
set_option Elab.async false
set_option linter.all false
set_option maxRecDepth 100000
/-! the IR of the family of law_k08 (made by fam.py), and what each def asks of a table -/
namespace Fam
open Fy
def f_is_integer : Fn := ⟨1, 1, [],
    (.cons (.ret (.and2 (.bi .isinst (.cons (.var 0) (.cons (.tyn "int" "int") .nil))) (.not1 (.bi .isinst (.cons (.var 0) (.cons (.tyn "bool" "bool") .nil))))))
    .nil)⟩
def f_is_number : Fn := ⟨2, 2, [.non],
    (.cons (.ret (.and2 (.call "is_integer" (.cons (.var 0) .nil)) (.and2 (.cmp .ge (.var 0) (.int 0)) (.or2 (.cmp .is (.var 1) .non) (.cmp .le (.var 0) (.var 1))))))
    .nil)⟩
def f_is_size : Fn := ⟨2, 2, [],
    (.cons (.ret (.and2 (.call "is_number" (.cons (.var 0) (.cons (.var 1) .nil))) (.cmp .gt (.var 0) (.int 0))))
    .nil)⟩
def f_is_sequence : Fn := ⟨1, 1, [],
    (.cons (.ret (.isi (.var 0) [("list", "list"), ("tuple", "tuple")]))
    .nil)⟩
def f_is_row : Fn := ⟨2, 4, [],
    (.cons (.ite (.or2 (.not1 (.bi .isinst (.cons (.var 0) (.cons (.tyn "tuple" "tuple") .nil)))) (.cmp .ne (.bi .len (.cons (.var 0) .nil)) (.bi .len (.cons (.var 1) .nil)))) (.cons (.ret (.bl false))
    .nil) .nil)
    (.cons (.ret (.bi .all (.cons (.lc [("one", 2), ("most", 3)] (.tp (.cons (.nm 2) (.cons (.nm 3) .nil))) (.zip (.var 0) (.var 1)) .none (.call "is_number" (.cons (.var 2) (.cons (.var 3) .nil)))) .nil)))
    .nil))⟩
def f_checked_kind : Fn := ⟨3, 8, [],
    (.cons (.ite (.or2 (.not1 (.call "is_sequence" (.cons (.var 0) .nil))) (.cmp .ne (.bi .len (.cons (.var 0) .nil)) (.int 3))) (.cons (.raise "InvalidTeam" (.cons (.tup (.cons (.var 1) (.cons (.str "kind") .nil))) .nil))
    .nil) .nil)
    (.cons (.asg (.tp (.cons (.nm 3) (.cons (.nm 4) (.cons (.nm 5) .nil)))) (.var 0))
    (.cons (.ite (.or2 (.not1 (.call "is_size" (.cons (.var 3) (.cons (.con "MOST_LOCALS" (.int 64)) .nil)))) (.not1 (.call "is_number" (.cons (.var 4) (.cons (.bin .sub (.var 3) (.int 1)) .nil))))) (.cons (.raise "InvalidTeam" (.cons (.tup (.cons (.var 1) (.cons (.str "kind") .nil))) .nil))
    .nil) .nil)
    (.cons (.ite (.or2 (.not1 (.call "is_sequence" (.cons (.var 5) .nil))) (.cmp .gt (.bi .len (.cons (.var 5) .nil)) (.con "MOST_STEPS" (.int 16384)))) (.cons (.raise "InvalidTeam" (.cons (.tup (.cons (.var 1) (.cons (.str "kind") .nil))) .nil))
    .nil) .nil)
    (.cons (.for_ (.tp (.cons (.nm 6) (.cons (.nm 7) .nil))) (.enum (.var 5)) (.cons (.ite (.or2 (.not1 (.call "is_row" (.cons (.var 7) (.cons (.tup (.cons (.bin .sub (.var 2) (.int 1)) (.cons (.bin .sub (.var 3) (.int 1)) (.cons (.bin .sub (.var 2) (.int 1)) (.cons (.bin .sub (.var 3) (.int 1)) .nil))))) .nil)))) (.and2 (.cmp .gt (.var 6) (.int 0)) (.cmp .le (.var 7) (.idx (.var 5) (.bin .sub (.var 6) (.int 1)))))) (.cons (.raise "InvalidTeam" (.cons (.tup (.cons (.var 1) (.cons (.var 6) .nil))) .nil))
    .nil) .nil)
    .nil))
    (.cons (.ret (.tup (.cons (.var 3) (.cons (.var 4) (.cons (.bi .tuple (.cons (.var 5) .nil)) .nil)))))
    .nil))))))⟩
def f_steps_from : Fn := ⟨1, 6, [],
    (.cons (.asg (.nm 1) .dnewT)
    (.cons (.for_ (.tp (.cons (.nm 2) (.cons (.nm 3) (.cons (.nm 4) (.cons (.nm 5) .nil))))) (.seq (.idx (.var 0) (.int 2))) (.cons (.putT (.var 1) (.cons (.var 2) (.cons (.var 3) .nil)) (.bin .add (.dgetT (.var 1) (.cons (.var 2) (.cons (.var 3) .nil)) (.tup .nil)) (.tup (.cons (.tup (.cons (.var 4) (.cons (.var 5) .nil))) .nil))))
    .nil))
    (.cons (.ret (.var 1))
    .nil)))⟩
def f_Team___init__ : Fn := ⟨5, 7, [],
    (.cons (.ite (.not1 (.call "is_size" (.cons (.var 1) (.cons (.con "MOST_STATES" (.int 256)) .nil)))) (.cons (.raise "InvalidTeam" (.cons (.str "states") .nil))
    .nil) .nil)
    (.cons (.ite (.not1 (.call "is_number" (.cons (.var 2) (.cons (.bin .sub (.var 1) (.int 1)) .nil)))) (.cons (.raise "InvalidTeam" (.cons (.str "start") .nil))
    .nil) .nil)
    (.cons (.ite (.not1 (.call "is_sequence" (.cons (.var 3) .nil))) (.cons (.raise "InvalidTeam" (.cons (.str "singles") .nil))
    .nil) .nil)
    (.cons (.ite (.not1 (.call "is_sequence" (.cons (.var 4) .nil))) (.cons (.raise "InvalidTeam" (.cons (.str "crowds") .nil))
    .nil) .nil)
    (.cons (.ite (.not1 (.chain .le .le (.int 1) (.bin .add (.bi .len (.cons (.var 3) .nil)) (.bi .len (.cons (.var 4) .nil))) (.con "MOST_KINDS" (.int 6)))) (.cons (.raise "InvalidTeam" (.cons (.str "kinds") .nil))
    .nil) .nil)
    (.cons (.sat "Team" (.var 0) "states" (.var 1))
    (.cons (.sat "Team" (.var 0) "start" (.var 2))
    (.cons (.sat "Team" (.var 0) "kinds" (.bi .tuple (.cons (.lc [("i", 5), ("kind", 6)] (.tp (.cons (.nm 5) (.cons (.nm 6) .nil))) (.enum (.bin .add (.bi .list (.cons (.var 3) .nil)) (.bi .list (.cons (.var 4) .nil)))) .none (.call "checked_kind" (.cons (.var 6) (.cons (.var 5) (.cons (.var 1) .nil))))) .nil)))
    (.cons (.sat "Team" (.var 0) "alone" (.bi .len (.cons (.var 3) .nil)))
    (.cons (.sat "Team" (.var 0) "singles" (.fz (.slc (.attr (.var 0) "kinds") .none (.some (.attr (.var 0) "alone")))))
    (.cons (.sat "Team" (.var 0) "crowds" (.fz (.slc (.attr (.var 0) "kinds") (.some (.attr (.var 0) "alone")) .none)))
    (.cons (.sat "Team" (.var 0) "froms" (.bi .tuple (.cons (.lc [("kind", 6)] (.nm 6) (.seq (.attr (.var 0) "kinds")) .none (.call "steps_from" (.cons (.var 6) .nil))) .nil)))
    .nil))))))))))))⟩
def f_moves_from : Fn := ⟨4, 4, [],
    (.cons (.ret (.dgetT (.idx (.attr (.var 0) "froms") (.var 2)) (.cons (.var 1) (.cons (.var 3) .nil)) (.tup .nil)))
    .nil)⟩
def f_is_step : Fn := ⟨5, 5, [],
    (.cons (.ret (.and2 (.call "is_row" (.cons (.var 4) (.cons (.tup (.cons (.bin .sub (.attr (.var 0) "states") (.int 1)) (.cons (.bin .sub (.idx (.idx (.attr (.var 0) "kinds") (.var 1)) (.int 0)) (.int 1)) .nil))) .nil))) (.cmp .inn (.var 4) (.call "moves_from" (.cons (.var 0) (.cons (.var 2) (.cons (.var 1) (.cons (.var 3) .nil))))))))
    .nil)⟩
def f_need_singles : Fn := ⟨1, 1, [],
    (.cons (.ite (.cmp .ne (.attr (.var 0) "crowds") (.tup .nil)) (.cons (.raise "Refused" (.cons (.str "crowds") .nil))
    .nil) .nil)
    .nil)⟩
def f_opening : Fn := ⟨1, 2, [],
    (.cons (.expr (.call "need_singles" (.cons (.var 0) .nil)))
    (.cons (.ret (.tup (.cons (.attr (.var 0) "start") (.cons (.bi .tuple (.cons (.lc [("kind", 1)] (.nm 1) (.seq (.attr (.var 0) "singles")) .none (.idx (.var 1) (.int 1))) .nil)) .nil))))
    .nil))⟩
def f_is_situation : Fn := ⟨2, 3, [],
    (.cons (.expr (.call "need_singles" (.cons (.var 0) .nil)))
    (.cons (.ite (.or2 (.not1 (.bi .isinst (.cons (.var 1) (.cons (.tyn "tuple" "tuple") .nil)))) (.or2 (.cmp .ne (.bi .len (.cons (.var 1) .nil)) (.int 2)) (.not1 (.call "is_number" (.cons (.idx (.var 1) (.int 0)) (.cons (.bin .sub (.attr (.var 0) "states") (.int 1)) .nil)))))) (.cons (.ret (.bl false))
    .nil) .nil)
    (.cons (.ret (.call "is_row" (.cons (.idx (.var 1) (.int 1)) (.cons (.fz (.lc [("kind", 2)] (.nm 2) (.seq (.attr (.var 0) "singles")) .none (.bin .sub (.idx (.var 2) (.int 0)) (.int 1)))) .nil))))
    .nil)))⟩
def f_is_rest : Fn := ⟨1, 1, [],
    (.cons (.ret (.and2 (.bi .isinst (.cons (.var 0) (.cons (.tyn "tuple" "tuple") .nil))) (.cmp .eq (.bi .len (.cons (.var 0) .nil)) (.int 0))))
    .nil)⟩
def f_moves_at : Fn := ⟨2, 7, [],
    (.cons (.expr (.call "need_singles" (.cons (.var 0) .nil)))
    (.cons (.asg (.nm 2) (.lst .nil))
    (.cons (.for_ (.tp (.cons (.nm 3) (.cons (.nm 4) .nil))) (.enum (.idx (.var 1) (.int 1))) (.cons (.expr (.me .ext (.var 2) (.cons (.lc [("t", 5), ("m", 6)] (.tp (.cons (.nm 5) (.cons (.nm 6) .nil))) (.seq (.call "moves_from" (.cons (.var 0) (.cons (.idx (.var 1) (.int 0)) (.cons (.var 3) (.cons (.var 4) .nil)))))) .none (.tup (.cons (.var 3) (.cons (.var 5) (.cons (.var 6) .nil))))) .nil)))
    .nil))
    (.cons (.ret (.bi .tuple (.cons (.var 2) .nil)))
    .nil))))⟩
def f_is_move_at : Fn := ⟨3, 3, [],
    (.cons (.expr (.call "need_singles" (.cons (.var 0) .nil)))
    (.cons (.ite (.call "is_rest" (.cons (.var 2) .nil)) (.cons (.ret (.bl true))
    .nil) .nil)
    (.cons (.ite (.not1 (.call "is_row" (.cons (.var 2) (.cons (.tup (.cons (.bin .sub (.attr (.var 0) "alone") (.int 1)) (.cons (.bin .sub (.attr (.var 0) "states") (.int 1)) (.cons (.int 63) .nil)))) .nil)))) (.cons (.ret (.bl false))
    .nil) .nil)
    (.cons (.ret (.call "is_step" (.cons (.var 0) (.cons (.idx (.var 2) (.int 0)) (.cons (.idx (.var 1) (.int 0)) (.cons (.idx (.idx (.var 1) (.int 1)) (.idx (.var 2) (.int 0))) (.cons (.fz (.slc (.var 2) (.some (.int 1)) .none)) .nil)))))))
    .nil))))⟩
def f_led : Fn := ⟨2, 5, [],
    (.cons (.ite (.cmp .eq (.var 1) (.con "REST" (.tup []))) (.cons (.ret (.var 0))
    .nil) .nil)
    (.cons (.asg (.tp (.cons (.nm 2) (.cons (.nm 3) (.cons (.nm 4) .nil)))) (.var 1))
    (.cons (.ret (.tup (.cons (.var 3) (.cons (.fz (.bin .add (.bin .add (.slc (.idx (.var 0) (.int 1)) .none (.some (.var 2))) (.tup (.cons (.var 4) .nil))) (.slc (.idx (.var 0) (.int 1)) (.some (.bin .add (.var 2) (.int 1))) .none))) .nil))))
    .nil)))⟩
def f_gone : Fn := ⟨3, 3, [],
    (.cons (.ite (.not1 (.call "is_move_at" (.cons (.var 0) (.cons (.var 1) (.cons (.var 2) .nil))))) (.cons (.raise "Refused" (.cons (.str "move") .nil))
    .nil) .nil)
    (.cons (.ret (.call "led" (.cons (.var 1) (.cons (.var 2) .nil))))
    .nil))⟩
def f_is_stuck : Fn := ⟨2, 2, [],
    (.cons (.ret (.cmp .eq (.call "moves_at" (.cons (.var 0) (.cons (.var 1) .nil))) (.tup .nil)))
    .nil)⟩
def f__law_well : Fn := ⟨1, 5, [],
    (.cons (.asg (.tp (.cons (.nm 1) (.cons (.nm 2) .nil))) (.tup (.cons (.int 50331) (.cons (.int 0) .nil))))
    (.cons (.for_ (.nm 3) (.seq (.slc (.var 0) .none (.some (.int 60)))) (.cons (.asg (.nm 4) (.bin .mod (.bi .int (.cons (.bin .add (.bin .mul (.int 2) (.bi .abs (.cons (.var 3) .nil))) (.bi .int (.cons (.cmp .lt (.var 3) (.int 0)) .nil))) .nil)) (.bin .pow (.int 10) (.int 60))))
    (.cons (.asg (.nm 2) (.bin .add (.bin .mul (.var 2) (.int 3)) (.var 4)))
    (.cons (.asg (.nm 1) (.bin .mod (.bi .int (.cons (.bin .add (.bin .add (.bin .mul (.var 1) (.int 48271)) (.bin .mod (.var 4) (.int 2147483563))) (.int 11)) .nil)) (.int 2147483647)))
    .nil))))
    (.cons (.ret (.lst (.cons (.var 2) (.cons (.var 1) (.cons (.int 0) .nil)))))
    .nil)))⟩
def f__law_dip : Fn := ⟨2, 3, [],
    (.cons (.ite (.cmp .gt (.idx (.var 0) (.int 0)) (.int 0)) (.cons (.asg (.nm 2) (.bin .mod (.bi .int (.cons (.idx (.var 0) (.int 0)) .nil)) (.var 1)))
    (.cons (.put (.var 0) (.int 0) (.bin .fdiv (.idx (.var 0) (.int 0)) (.var 1)))
    (.cons (.ret (.var 2))
    .nil))) .nil)
    (.cons (.put (.var 0) (.int 2) (.bin .add (.idx (.var 0) (.int 2)) (.int 1)))
    (.cons (.put (.var 0) (.int 1) (.bin .mod (.bi .int (.cons (.bin .add (.bin .add (.bin .mul (.idx (.var 0) (.int 1)) (.int 69621)) (.bin .mul (.int 88001) (.idx (.var 0) (.int 2)))) (.int 7)) .nil)) (.int 2147483647)))
    (.cons (.ret (.bin .mod (.bi .int (.cons (.bin .fdiv (.idx (.var 0) (.int 1)) (.int 16)) .nil)) (.var 1)))
    .nil))))⟩
def f__law_one : Fn := ⟨2, 2, [],
    (.cons (.ret (.idx (.var 1) (.call "_law_dip" (.cons (.var 0) (.cons (.bi .len (.cons (.var 1) .nil)) .nil)))))
    .nil)⟩
def f__law_like : Fn := ⟨2, 4, [],
    (.cons (.ite (.bi .isinst (.cons (.var 1) (.cons (.tyn "tuple" "tuple") .nil))) (.cons (.ret (.and2 (.bi .isinst (.cons (.var 0) (.cons (.tyn "tuple" "tuple") .nil))) (.and2 (.cmp .eq (.bi .len (.cons (.var 0) .nil)) (.bi .len (.cons (.var 1) .nil))) (.bi .all (.cons (.lc [("one", 2), ("other", 3)] (.tp (.cons (.nm 2) (.cons (.nm 3) .nil))) (.zip (.var 0) (.var 1)) .none (.call "_law_like" (.cons (.var 2) (.cons (.var 3) .nil)))) .nil)))))
    .nil) .nil)
    (.cons (.ite (.bi .isinst (.cons (.var 1) (.cons (.tyn "list" "list") .nil))) (.cons (.ret (.and2 (.bi .isinst (.cons (.var 0) (.cons (.tyn "list" "list") .nil))) (.and2 (.cmp .eq (.bi .len (.cons (.var 0) .nil)) (.bi .len (.cons (.var 1) .nil))) (.bi .all (.cons (.lc [("one", 2), ("other", 3)] (.tp (.cons (.nm 2) (.cons (.nm 3) .nil))) (.zip (.var 0) (.var 1)) .none (.call "_law_like" (.cons (.var 2) (.cons (.var 3) .nil)))) .nil)))))
    .nil) .nil)
    (.cons (.ite (.cmp .is (.var 1) .non) (.cons (.ret (.cmp .is (.var 0) .non))
    .nil) .nil)
    (.cons (.ite (.bi .isinst (.cons (.var 1) (.cons (.tyn "bool" "bool") .nil))) (.cons (.ret (.ite (.var 1) (.cmp .is (.var 0) (.bl true)) (.cmp .is (.var 0) (.bl false))))
    .nil) .nil)
    (.cons (.ite (.bi .isinst (.cons (.var 1) (.cons (.tyn "int" "int") .nil))) (.cons (.ret (.and2 (.bi .isinst (.cons (.var 0) (.cons (.tyn "int" "int") .nil))) (.and2 (.not1 (.bi .isinst (.cons (.var 0) (.cons (.tyn "bool" "bool") .nil)))) (.cmp .eq (.var 0) (.var 1)))))
    .nil) .nil)
    (.cons (.ret (.and2 (.bi .isinst (.cons (.var 0) (.cons (.tyn "str" "str") .nil))) (.and2 (.bi .isinst (.cons (.var 1) (.cons (.tyn "str" "str") .nil))) (.cmp .eq (.var 0) (.var 1)))))
    .nil))))))⟩
def f__law_kind : Fn := ⟨3, 7, [],
    (.cons (.asg (.nm 3) (.lst .nil))
    (.cons (.for_ (.nm 4) (.rng (.cons (.bin .add (.int 2) (.call "_law_dip" (.cons (.var 0) (.cons (.int 5) .nil)))) .nil)) (.cons (.asg (.nm 5) (.call "_law_dip" (.cons (.var 0) (.cons (.var 2) .nil))))
    (.cons (.asg (.nm 6) (.call "_law_one" (.cons (.var 0) (.cons (.fz (.lst (.cons (.bin .mod (.bi .int (.cons (.bin .add (.var 5) (.int 1)) .nil)) (.var 2)) (.cons (.bin .mod (.bi .int (.cons (.bin .add (.var 5) (.int 1)) .nil)) (.var 2)) (.cons (.var 5) (.cons (.int 0) .nil)))))) .nil))))
    (.cons (.expr (.app (.var 3) (.cons (.tup (.cons (.call "_law_dip" (.cons (.var 0) (.cons (.var 1) .nil))) (.cons (.var 5) (.cons (.call "_law_dip" (.cons (.var 0) (.cons (.var 1) .nil))) (.cons (.var 6) .nil))))) .nil)))
    .nil))))
    (.cons (.ret (.tup (.cons (.var 2) (.cons (.ite (.cmp .eq (.call "_law_dip" (.cons (.var 0) (.cons (.int 4) .nil))) (.int 0)) (.call "_law_dip" (.cons (.var 0) (.cons (.var 2) .nil))) (.int 0)) (.cons (.bi .tuple (.cons (.sset (.var 3)) .nil)) .nil)))))
    .nil)))⟩
def f__law_team : Fn := ⟨2, 9, [],
    (.cons (.par2 2 3 (.call "_law_dip" (.cons (.var 0) (.cons (.int 5) .nil))) (.bin .add (.int 1) (.call "_law_dip" (.cons (.var 0) (.cons (.var 1) .nil)))))
    (.cons (.asg (.tp (.cons (.nm 4) (.cons (.nm 5) .nil))) (.tup (.cons (.tup (.cons (.tup (.cons (.int 0) (.cons (.int 0) (.cons (.int 1) (.cons (.int 1) .nil))))) (.cons (.tup (.cons (.int 1) (.cons (.int 1) (.cons (.int 0) (.cons (.int 0) .nil))))) .nil))) (.cons (.tup (.cons (.tup (.cons (.int 0) (.cons (.int 0) (.cons (.int 1) (.cons (.int 1) .nil))))) (.cons (.tup (.cons (.int 1) (.cons (.int 0) (.cons (.int 1) (.cons (.int 0) .nil))))) (.cons (.tup (.cons (.int 1) (.cons (.int 1) (.cons (.int 0) (.cons (.int 0) .nil))))) .nil)))) .nil))))
    (.cons (.ite (.cmp .eq (.var 2) (.int 0)) (.cons (.ret (.tup (.cons (.int 2) (.cons (.int 0) (.cons (.fz (.bin .add (.bin .mul (.lst (.cons (.tup (.cons (.int 2) (.cons (.int 0) (.cons (.var 4) .nil)))) .nil)) (.var 3)) (.ite (.cmp .lt (.var 3) (.var 1)) (.lst (.cons (.tup (.cons (.int 2) (.cons (.int 0) (.cons (.var 5) .nil)))) .nil)) (.lst .nil)))) .nil)))))
    .nil) .nil)
    (.cons (.asg (.nm 6) (.bin .add (.int 1) (.call "_law_dip" (.cons (.var 0) (.cons (.int 3) .nil)))))
    (.cons (.asgLc 7 [("turn", 5)] (.nm 5) (.rng (.cons (.var 3) .nil)) .none (.call "_law_kind" (.cons (.var 0) (.cons (.var 6) (.cons (.bin .add (.int 1) (.call "_law_dip" (.cons (.var 0) (.cons (.int 3) .nil)))) .nil)))))
    (.cons (.ite (.cmp .eq (.var 2) (.int 1)) (.cons (.put (.var 7) (.int 0) (.tup (.cons (.int 1) (.cons (.int 0) (.cons (.bi .tuple (.cons (.lc [("s", 8)] (.nm 8) (.rng (.cons (.var 6) .nil)) .none (.tup (.cons (.var 8) (.cons (.int 0) (.cons (.bin .mod (.bi .int (.cons (.bin .add (.var 8) (.int 1)) .nil)) (.var 6)) (.cons (.int 0) .nil)))))) .nil)) .nil)))))
    .nil) .nil)
    (.cons (.ite (.and2 (.cmp .eq (.var 2) (.int 2)) (.cmp .gt (.var 6) (.int 1))) (.cons (.put (.var 7) (.int 0) (.tup (.cons (.int 2) (.cons (.int 0) (.cons (.var 4) .nil)))))
    .nil) .nil)
    (.cons (.ret (.tup (.cons (.var 6) (.cons (.call "_law_dip" (.cons (.var 0) (.cons (.var 6) .nil))) (.cons (.var 7) .nil)))))
    .nil))))))))⟩
def f__law_opening : Fn := ⟨2, 3, [],
    (.cons (.ret (.tup (.cons (.var 0) (.cons (.bi .tuple (.cons (.lc [("kind", 2)] (.nm 2) (.seq (.var 1)) .none (.idx (.var 2) (.int 1))) .nil)) .nil))))
    .nil)⟩
def f__law_moves : Fn := ⟨2, 6, [],
    (.cons (.asg (.nm 2) (.lst .nil))
    (.cons (.for_ (.tp (.cons (.nm 3) (.cons (.nm 4) .nil))) (.enum (.var 0)) (.cons (.expr (.me .ext (.var 2) (.cons (.lc [("step", 5)] (.nm 5) (.seq (.idx (.var 4) (.int 2))) (.some (.cmp .eq (.slc (.var 5) .none (.some (.int 2))) (.tup (.cons (.idx (.var 1) (.int 0)) (.cons (.idx (.idx (.var 1) (.int 1)) (.var 3)) .nil))))) (.tup (.cons (.var 3) (.cons (.idx (.var 5) (.int 2)) (.cons (.idx (.var 5) (.int 3)) .nil))))) .nil)))
    .nil))
    (.cons (.ret (.var 2))
    .nil)))⟩
def f__law_led : Fn := ⟨2, 2, [],
    (.cons (.ite (.cmp .eq (.var 1) (.tup .nil)) (.cons (.ret (.var 0))
    .nil) .nil)
    (.cons (.ret (.tup (.cons (.idx (.var 1) (.int 1)) (.cons (.fz (.bin .add (.bin .add (.slc (.idx (.var 0) (.int 1)) .none (.some (.idx (.var 1) (.int 0)))) (.tup (.cons (.idx (.var 1) (.int 2)) .nil))) (.slc (.idx (.var 0) (.int 1)) (.some (.bin .add (.idx (.var 1) (.int 0)) (.int 1))) .none))) .nil))))
    .nil))⟩
def f__law_any_there : Fn := ⟨3, 4, [],
    (.cons (.ret (.tup (.cons (.call "_law_dip" (.cons (.var 0) (.cons (.var 1) .nil))) (.cons (.bi .tuple (.cons (.lc [("kind", 3)] (.nm 3) (.seq (.var 2)) .none (.call "_law_dip" (.cons (.var 0) (.cons (.idx (.var 3) (.int 0)) .nil)))) .nil)) .nil))))
    .nil)⟩
def f__law_moves_told : Fn := ⟨5, 15, [],
    (.cons (.asg (.nm 5) (.fz (.call "_law_moves" (.cons (.var 3) (.cons (.var 4) .nil)))))
    (.cons (.ite (.or2 (.not1 (.call "_law_like" (.cons (.call "moves_at" (.cons (.var 1) (.cons (.var 4) .nil))) (.cons (.bi .tuple (.cons (.var 5) .nil)) .nil)))) (.not1 (.call "_law_like" (.cons (.call "is_stuck" (.cons (.var 1) (.cons (.var 4) .nil))) (.cons (.cmp .eq (.var 5) (.lst .nil)) .nil))))) (.cons (.ret (.bl false))
    .nil) .nil)
    (.cons (.for_ (.nm 6) (.seq (.bin .add (.var 5) (.lst (.cons (.tup .nil) .nil)))) (.cons (.asg (.nm 7) (.call "_law_led" (.cons (.var 4) (.cons (.var 6) .nil))))
    (.cons (.ite (.or2 (.cmp .isnot (.call "is_move_at" (.cons (.var 1) (.cons (.var 4) (.cons (.var 6) .nil)))) (.bl true)) (.not1 (.call "_law_like" (.cons (.call "gone" (.cons (.var 1) (.cons (.var 4) (.cons (.var 6) .nil)))) (.cons (.var 7) .nil))))) (.cons (.ret (.bl false))
    .nil) .nil)
    (.cons (.ite (.or2 (.not1 (.call "_law_like" (.cons (.call "led" (.cons (.var 4) (.cons (.var 6) .nil))) (.cons (.var 7) .nil)))) (.not1 (.call "_law_like" (.cons (.call "is_rest" (.cons (.var 6) .nil)) (.cons (.cmp .eq (.var 6) (.tup .nil)) .nil))))) (.cons (.ret (.bl false))
    .nil) .nil)
    .nil))))
    (.cons (.asg (.nm 8) (.call "_law_dip" (.cons (.var 0) (.cons (.bi .len (.cons (.var 3) .nil)) .nil))))
    (.cons (.asgLcF 9 [("turn", 13)] (.nm 13) (.rng (.cons (.int 4) .nil)) .none (.tup (.cons (.var 8) (.cons (.call "_law_dip" (.cons (.var 0) (.cons (.var 2) .nil))) (.cons (.call "_law_dip" (.cons (.var 0) (.cons (.idx (.idx (.var 3) (.var 8)) (.int 0)) .nil))) .nil)))))
    (.cons (.asg (.nm 9) (.fz (.bin .add (.var 9) (.lst (.cons (.tup (.cons (.bi .len (.cons (.var 3) .nil)) (.cons (.int 0) (.cons (.int 0) .nil)))) (.cons (.tup (.cons (.bin .sub (.int 0) (.int 1)) (.cons (.int 0) (.cons (.int 0) .nil)))) (.cons (.tup (.cons (.var 8) (.cons (.var 2) (.cons (.int 0) .nil)))) (.cons (.tup (.cons (.var 8) (.cons (.int 0) (.cons (.int 64) .nil)))) (.cons .non (.cons (.fz (.lst .nil)) (.cons (.int 0) (.cons (.str "rest") (.cons (.tup (.cons (.var 8) .nil)) (.cons (.tup (.cons (.tup .nil) .nil)) .nil))))))))))))))
    (.cons (.ite (.cmp .ne (.var 5) (.lst .nil)) (.cons (.asg (.nm 10) (.call "_law_one" (.cons (.var 0) (.cons (.var 5) .nil))))
    (.cons (.asg (.nm 9) (.fz (.bin .add (.var 9) (.lst (.cons (.fz (.bi .list (.cons (.var 10) .nil))) (.cons (.fz (.slc (.var 10) .none (.some (.int 2)))) (.cons (.bin .add (.var 10) (.tup (.cons (.int 0) .nil))) (.cons (.bin .add (.tup (.cons (.cmp .eq (.idx (.var 10) (.int 0)) (.int 1)) .nil)) (.slc (.var 10) (.some (.int 1)) .none)) (.cons (.tup (.cons (.idx (.var 10) (.int 0)) (.cons (.cmp .eq (.idx (.var 10) (.int 1)) (.int 1)) (.cons (.idx (.var 10) (.int 2)) .nil)))) (.cons (.bin .add (.slc (.var 10) .none (.some (.int 2))) (.tup (.cons (.cmp .eq (.idx (.var 10) (.int 2)) (.int 1)) .nil))) .nil))))))))))
    .nil)) .nil)
    (.cons (.for_ (.nm 11) (.seq (.var 9)) (.cons (.asg (.nm 12) (.and2 (.bi .isinst (.cons (.var 11) (.cons (.tyn "tuple" "tuple") .nil))) (.and2 (.cmp .inn (.var 11) (.var 5)) (.not1 (.bi .any (.cons (.lc [("part", 14)] (.nm 14) (.seq (.var 11)) .none (.bi .isinst (.cons (.var 14) (.cons (.tyn "bool" "bool") .nil)))) .nil))))))
    (.cons (.ite (.or2 (.not1 (.call "_law_like" (.cons (.call "is_move_at" (.cons (.var 1) (.cons (.var 4) (.cons (.var 11) .nil)))) (.cons (.var 12) .nil)))) (.cmp .isnot (.call "is_rest" (.cons (.var 11) .nil)) (.bl false))) (.cons (.ret (.bl false))
    .nil) .nil)
    (.cons (.ite (.and2 (.not1 (.var 12)) (.cmp .ne (.heard2 "_law_heard" "Refused" (.call "gone" (.cons (.var 1) (.cons (.var 4) (.cons (.var 11) .nil))))) (.str "move"))) (.cons (.ret (.bl false))
    .nil) .nil)
    .nil))))
    (.cons (.ret (.bl true))
    .nil)))))))))⟩
def f__law_odd_theres : Fn := ⟨3, 9, [],
    (.cons (.asg (.tp (.cons (.nm 3) (.cons (.nm 4) .nil))) (.var 0))
    (.cons (.asg (.nm 5) (.lst (.cons .non (.cons (.int 0) (.cons (.str "") (.cons (.tup .nil) (.cons (.tup (.cons (.var 3) .nil)) (.cons (.bin .add (.var 0) (.tup (.cons (.int 0) .nil))) (.cons (.fz (.bi .list (.cons (.var 0) .nil))) (.cons (.tup (.cons (.var 3) (.cons (.fz (.bi .list (.cons (.var 4) .nil))) .nil))) (.cons (.tup (.cons (.var 3) (.cons (.bin .add (.var 4) (.tup (.cons (.int 0) .nil))) .nil))) (.cons (.tup (.cons (.var 3) (.cons (.fz (.slc (.var 4) (.some (.int 1)) .none)) .nil))) (.cons (.tup (.cons (.var 1) (.cons (.var 4) .nil))) (.cons (.tup (.cons (.bin .sub (.int 0) (.int 1)) (.cons (.var 4) .nil))) .nil))))))))))))))
    (.cons (.asg (.nm 5) (.bin .add (.var 5) (.lst (.cons (.tup (.cons (.cmp .eq (.var 3) (.int 1)) (.cons (.var 4) .nil))) (.cons (.tup (.cons .non (.cons (.var 4) .nil))) (.cons (.tup (.cons (.var 3) (.cons .non .nil))) .nil))))))
    (.cons (.for_ (.tp (.cons (.nm 6) (.cons (.nm 7) .nil))) (.enum (.var 2)) (.cons (.for_ (.nm 8) (.seq (.lst (.cons (.idx (.var 7) (.int 0)) (.cons (.bin .sub (.int 0) (.int 1)) (.cons .non (.cons (.cmp .eq (.idx (.var 4) (.var 6)) (.int 1)) (.cons (.tup (.cons (.idx (.var 4) (.var 6)) .nil)) .nil))))))) (.cons (.expr (.app (.var 5) (.cons (.tup (.cons (.var 3) (.cons (.fz (.bin .add (.bin .add (.slc (.var 4) .none (.some (.var 6))) (.tup (.cons (.var 8) .nil))) (.slc (.var 4) (.some (.bin .add (.var 6) (.int 1))) .none))) .nil))) .nil)))
    .nil))
    .nil))
    (.cons (.ret (.var 5))
    .nil)))))⟩
structure H_is_integer (tb : Tab) : Prop where
  is_integer : tb "is_integer" = some f_is_integer
structure H_is_number (tb : Tab) : Prop extends H_is_integer tb where
  is_number : tb "is_number" = some f_is_number
structure H_is_size (tb : Tab) : Prop extends H_is_number tb where
  is_size : tb "is_size" = some f_is_size
structure H_is_sequence (tb : Tab) : Prop where
  is_sequence : tb "is_sequence" = some f_is_sequence
structure H_is_row (tb : Tab) : Prop extends H_is_number tb where
  is_row : tb "is_row" = some f_is_row
structure H_checked_kind (tb : Tab) : Prop extends H_is_sequence tb, H_is_size tb, H_is_number tb, H_is_row tb where
  checked_kind : tb "checked_kind" = some f_checked_kind
structure H_steps_from (tb : Tab) : Prop where
  steps_from : tb "steps_from" = some f_steps_from
structure H_Team___init__ (tb : Tab) : Prop extends H_is_size tb, H_is_number tb, H_is_sequence tb, H_checked_kind tb, H_steps_from tb where
  Team___init__ : tb "Team.__init__" = some f_Team___init__
structure H_moves_from (tb : Tab) : Prop where
  moves_from : tb "moves_from" = some f_moves_from
structure H_is_step (tb : Tab) : Prop extends H_is_row tb, H_moves_from tb where
  is_step : tb "is_step" = some f_is_step
structure H_need_singles (tb : Tab) : Prop where
  need_singles : tb "need_singles" = some f_need_singles
structure H_opening (tb : Tab) : Prop extends H_need_singles tb where
  opening : tb "opening" = some f_opening
structure H_is_situation (tb : Tab) : Prop extends H_need_singles tb, H_is_number tb, H_is_row tb where
  is_situation : tb "is_situation" = some f_is_situation
structure H_is_rest (tb : Tab) : Prop where
  is_rest : tb "is_rest" = some f_is_rest
structure H_moves_at (tb : Tab) : Prop extends H_need_singles tb, H_moves_from tb where
  moves_at : tb "moves_at" = some f_moves_at
structure H_is_move_at (tb : Tab) : Prop extends H_need_singles tb, H_is_rest tb, H_is_row tb, H_is_step tb where
  is_move_at : tb "is_move_at" = some f_is_move_at
structure H_led (tb : Tab) : Prop where
  led : tb "led" = some f_led
structure H_gone (tb : Tab) : Prop extends H_is_move_at tb, H_led tb where
  gone : tb "gone" = some f_gone
structure H_is_stuck (tb : Tab) : Prop extends H_moves_at tb where
  is_stuck : tb "is_stuck" = some f_is_stuck
structure H__law_well (tb : Tab) : Prop where
  _law_well : tb "_law_well" = some f__law_well
structure H__law_dip (tb : Tab) : Prop where
  _law_dip : tb "_law_dip" = some f__law_dip
structure H__law_one (tb : Tab) : Prop extends H__law_dip tb where
  _law_one : tb "_law_one" = some f__law_one
structure H__law_like (tb : Tab) : Prop where
  _law_like : tb "_law_like" = some f__law_like
structure H__law_kind (tb : Tab) : Prop extends H__law_dip tb, H__law_one tb where
  _law_kind : tb "_law_kind" = some f__law_kind
structure H__law_team (tb : Tab) : Prop extends H__law_dip tb, H__law_kind tb where
  _law_team : tb "_law_team" = some f__law_team
structure H__law_opening (tb : Tab) : Prop where
  _law_opening : tb "_law_opening" = some f__law_opening
structure H__law_moves (tb : Tab) : Prop where
  _law_moves : tb "_law_moves" = some f__law_moves
structure H__law_led (tb : Tab) : Prop where
  _law_led : tb "_law_led" = some f__law_led
structure H__law_any_there (tb : Tab) : Prop extends H__law_dip tb where
  _law_any_there : tb "_law_any_there" = some f__law_any_there
structure H__law_moves_told (tb : Tab) : Prop extends H__law_moves tb, H__law_like tb, H_moves_at tb, H_is_stuck tb, H__law_led tb, H_is_move_at tb, H_gone tb, H_led tb, H_is_rest tb, H__law_dip tb, H__law_one tb where
  _law_moves_told : tb "_law_moves_told" = some f__law_moves_told
structure H__law_odd_theres (tb : Tab) : Prop where
  _law_odd_theres : tb "_law_odd_theres" = some f__law_odd_theres
end Fam
end
section
set_option Elab.async false
set_option linter.all false
set_option maxRecDepth 100000
set_option maxHeartbeats 1000000
/-! Ma: the evaluator's equations one by one (comprehensions and loops left whole); stores behind calls. -/
namespace Fy
section
variable {cf : CallF} {wf : Nat} {ρ : Env} {s : Sto}
theorem e_var (i : Nat) : evE cf (.var i) ρ s = match ρ[i]? with | some (some d) => .ok (.v d) s | _ => .bad := by first | (rw [evE]; done) | (rw [evE]; rfl)
theorem e_int (n : Int) : evE cf (.int n) ρ s = .ok (.v (.int n)) s := by first | (rw [evE]; done) | (rw [evE]; rfl)
theorem e_bl (n : Bool) : evE cf (.bl n) ρ s = .ok (.v (.bl n)) s := by first | (rw [evE]; done) | (rw [evE]; rfl)
theorem e_non : evE cf .non ρ s = .ok (.v .non) s := by first | (rw [evE]; done) | (rw [evE]; rfl)
theorem e_str (x : PySem.Str) : evE cf (.str x) ρ s = .ok (.v (.str x)) s := by first | (rw [evE]; done) | (rw [evE]; rfl)
theorem e_tyn (x : PySem.Str) (t : String) : evE cf (.tyn x t) ρ s = .ok (.v (.ty t)) s := by first | (rw [evE]; done) | (rw [evE]; rfl)
theorem e_con (x : PySem.Str) (d : D) : evE cf (.con x d) ρ s = .ok (.v d) s := by first | (rw [evE]; done) | (rw [evE]; rfl)
theorem e_bin (op : Bop) (a b : E) : evE cf (.bin op a b) ρ s = (evE cf a ρ s).bind fun x s => (evE cf b ρ s).bind fun y s => ofO (binT op x y s) s := by first | (rw [evE]; done) | (rw [evE]; rfl)
theorem e_neg (a : E) : evE cf (.neg a) ρ s = (evE cf a ρ s).bind fun x s => match x with | .v (.int i) => .ok (.v (.int (-i))) s | _ => .bad := by first | (rw [evE]; done) | (rw [evE]; rfl)
theorem e_cmp (op : Cop) (a b : E) : evE cf (.cmp op a b) ρ s = (evE cf a ρ s).bind fun x s => (evE cf b ρ s).bind fun y s => ofO ((cmpT op x y s).map fun b => .v (.bl b)) s := by first | (rw [evE]; done) | (rw [evE]; rfl)
theorem e_chain (op op' : Cop) (a b c : E) : evE cf (.chain op op' a b c) ρ s = (evE cf a ρ s).bind fun x s => (evE cf b ρ s).bind fun y s =>
      match cmpT op x y s with
      | some true => (evE cf c ρ s).bind fun z s => ofO ((cmpT op' y z s).map fun b => .v (.bl b)) s
      | some false => .ok (.v (.bl false)) s
      | none => .bad := by first | (rw [evE]; done) | (rw [evE]; rfl)
theorem e_and (a b : E) : evE cf (.and2 a b) ρ s = (evE cf a ρ s).bind fun x s => match truth x s with | some true => evE cf b ρ s | some false => .ok x s | none => .bad := by first | (rw [evE]; done) | (rw [evE]; rfl)
theorem e_or (a b : E) : evE cf (.or2 a b) ρ s = (evE cf a ρ s).bind fun x s => match truth x s with | some false => evE cf b ρ s | some true => .ok x s | none => .bad := by first | (rw [evE]; done) | (rw [evE]; rfl)
theorem e_not (a : E) : evE cf (.not1 a) ρ s = (evE cf a ρ s).bind fun x s => match truth x s with | some b => .ok (.v (.bl (!b))) s | none => .bad := by first | (rw [evE]; done) | (rw [evE]; rfl)
theorem e_ite (c a b : E) : evE cf (.ite c a b) ρ s = (evE cf c ρ s).bind fun x s => match truth x s with | some true => evE cf a ρ s | some false => evE cf b ρ s | none => .bad := by first | (rw [evE]; done) | (rw [evE]; rfl)
theorem e_tup (es : Es) : evE cf (.tup es) ρ s = (evEs cf es ρ s).bind fun xs s => if xs.length ≤ LIM then .ok (.v (.tup xs)) s else .bad := by first | (rw [evE]; done) | (rw [evE]; rfl)
theorem e_lst (es : Es) : evE cf (.lst es) ρ s = (evEs cf es ρ s).bind fun xs s => if xs.length ≤ LIM then .ok (.l xs) s else .bad := by first | (rw [evE]; done) | (rw [evE]; rfl)
theorem e_idx (a i : E) : evE cf (.idx a i) ρ s = (evE cf a ρ s).bind fun x s => (evE cf i ρ s).bind fun y s => ofO (idxT x y s) s := by first | (rw [evE]; done) | (rw [evE]; rfl)
theorem e_slc (a : E) (lo hi : Eo) : evE cf (.slc a lo hi) ρ s = (evE cf a ρ s).bind fun x s => (evEo cf lo ρ s).bind fun lo s => (evEo cf hi ρ s).bind fun hi s => ofO (slcT x lo hi s) s := by first | (rw [evE]; done) | (rw [evE]; rfl)
theorem e_dnewT : evE cf .dnewT ρ s = .ok (.v (.loc s.length)) (s ++ [.dic true []]) := by first | (rw [evE]; done) | (rw [evE]; rfl)
theorem e_dgetT (a : E) (k : Es) (e : E) : evE cf (.dgetT a k e) ρ s = (evE cf a ρ s).bind fun x s => if isDic x s then (evEs cf k ρ s).bind fun ks s => if ks.length ≤ LIM then (evE cf e ρ s).bind fun z s => (keepR z s).bind fun z s => ofO ((dicAtT x ks s).map fun o => .v (o.getD z)) s else .bad else .bad := by first | (rw [evE]; done) | (rw [evE]; rfl)
theorem e_fz (e : E) : evE cf (.fz e) ρ s = (evE cf e ρ s).bind fun t s => .ok (.v t.froz) s := by first | (rw [evE]; done) | (rw [evE]; rfl)
theorem e_attr (e : E) (f : PySem.Str) : evE cf (.attr e f) ρ s = (evE cf e ρ s).bind fun x s => ofO ((fldAt x f s).map .v) s := by first | (rw [evE]; done) | (rw [evE]; rfl)
theorem e_isi (e : E) (ts : List (PySem.Str × String)) : evE cf (.isi e ts) ρ s = (evE cf e ρ s).bind fun x s => ofO ((tyOf x s).map fun t => .v (.bl (ts.any fun c => isSub t c.2))) s := by first | (rw [evE]; done) | (rw [evE]; rfl)
theorem e_sset (e : E) : evE cf (.sset e) ρ s = (evE cf e ρ s).bind fun x s => ofO (((lstOf x s).bind ssetD).map .l) s := by first | (rw [evE]; done) | (rw [evE]; rfl)
theorem e_new (c f : PySem.Str) (es : Es) : evE cf (.new c f es) ρ s = (evEs cf es ρ s).bind fun xs s => (cf f (.loc s.length :: xs) (s ++ [.ins c []])).bind fun t s' => match t with | .v .non => .ok (.v (.loc s.length)) s' | _ => .bad := by first | (rw [evE]; done) | (rw [evE]; rfl)
theorem e_call (f : PySem.Str) (es : Es) : evE cf (.call f es) ρ s = (evEs cf es ρ s).bind fun xs s => cf f xs s := by first | (rw [evE]; done) | (rw [evE]; rfl)
theorem e_bi (f : Bi) (es : Es) : evE cf (.bi f es) ρ s = (evTs cf es ρ s).bind fun xs s => ofO (biT f xs s) s := by first | (rw [evE]; done) | (rw [evE]; rfl)
theorem e_heard2 (f c : PySem.Str) (e : E) : evE cf (.heard2 f c e) ρ s = (match evE cf e ρ s with
      | .ok _ s' => .ok (.v (.str "none")) s'
      | .ex x s' => if x.cls = c then .ok (.v x.val) s' else .bad
      | .bad => .bad) := by first | (rw [evE]; done) | (rw [evE]; rfl)
theorem e_app (o : E) (es : Es) : evE cf (.app o es) ρ s = (evE cf o ρ s).bind fun t s => (ofO (isLst t s) s).bind fun t s => (evEs cf es ρ s).bind fun ds s => appT t ds s := by first | (rw [evE]; done) | (rw [evE]; rfl)
theorem e_me (m : Lm) (o : E) (es : Es) : evE cf (.me m o es) ρ s = (evE cf o ρ s).bind fun t s => (ofO (isLst t s) s).bind fun t s => (evTs cf es ρ s).bind fun ts s => meT m t ts s := by first | (rw [evE]; done) | (rw [evE]; rfl)
theorem es_nil : evEs cf .nil ρ s = .ok [] s := by first | (rw [evEs]; done) | (rw [evEs]; rfl)
theorem es_cons (e : E) (es : Es) : evEs cf (.cons e es) ρ s = (evE cf e ρ s).bind fun t s => (keepR t s).bind fun d s => (evEs cf es ρ s).bind fun ds s => .ok (d :: ds) s := by first | (rw [evEs]; done) | (rw [evEs]; rfl)
theorem ts_nil : evTs cf .nil ρ s = .ok [] s := by first | (rw [evTs]; done) | (rw [evTs]; rfl)
theorem ts_cons (e : E) (es : Es) : evTs cf (.cons e es) ρ s = (evE cf e ρ s).bind fun t s => (evTs cf es ρ s).bind fun ts s => .ok (t :: ts) s := by first | (rw [evTs]; done) | (rw [evTs]; rfl)
theorem eo_none : evEo cf .none ρ s = .ok none s := by first | (rw [evEo]; done) | (rw [evEo]; rfl)
theorem eo_some (e : E) : evEo cf (.some e) ρ s = (evE cf e ρ s).bind fun t s => match t with | .v (.int i) => .ok (some i) s | _ => .bad := by first | (rw [evEo]; done) | (rw [evEo]; rfl)
theorem ec_none : evC cf .none ρ s = .ok true s := by first | (rw [evC]; done) | (rw [evC]; rfl)
theorem ec_some (e : E) : evC cf (.some e) ρ s = (evE cf e ρ s).bind fun t s => ofO (truth t s) s := by first | (rw [evC]; done) | (rw [evC]; rfl)
theorem i_seq (e : E) : evIt cf (.seq e) ρ s = (evE cf e ρ s).bind fun t s => ofO (itemsOf t s) s := by first | (rw [evIt]; done) | (rw [evIt]; rfl)
theorem i_rng (es : Es) : evIt cf (.rng es) ρ s = (evEs cf es ρ s).bind fun xs s => ofO (rangeOf xs) s := by first | (rw [evIt]; done) | (rw [evIt]; rfl)
theorem i_zip (a b : E) : evIt cf (.zip a b) ρ s = (evE cf a ρ s).bind fun x s => (evE cf b ρ s).bind fun y s => ofO (zipOf x y s) s := by first | (rw [evIt]; done) | (rw [evIt]; rfl)
theorem i_enum (a : E) : evIt cf (.enum a) ρ s = (evE cf a ρ s).bind fun t s => ofO (enumOf t s) s := by first | (rw [evIt]; done) | (rw [evIt]; rfl)
/-- a comprehension -/
theorem e_lc {own : List (PySem.Str × Nat)} {tg : Tg} {it : It} {c : Eo} {e : E} {I : Items} {s' : Sto} (h : evIt cf it ρ s = .ok I s') :
    evE cf (.lc own tg it c e) ρ s = lcLoop (lcF tg (own.map (·.2)) ρ (evC cf c) (evE cf e)) I.src I.xs [] s' := by rw [evE, h]; rfl
theorem s_asg (t : Tg) (e : E) : evS cf wf (.asg t e) ρ s = (evE cf e ρ s).fl ρ fun x s => (keepR x s).fl ρ fun d s => match bindT t d ρ with | some ρ => .nx ρ s | none => .bad := by first | (rw [evS]; done) | (rw [evS]; rfl)
theorem s_par2 (i j : Nat) (a b : E) : evS cf wf (.par2 i j a b) ρ s = (evE cf a ρ s).fl ρ fun x s => (keepR x s).fl ρ fun d s => (evE cf b ρ s).fl ρ fun y s => (keepR y s).fl ρ fun e s => .nx ((ρ.set i (some d)).set j (some e)) s := by first | (rw [evS]; done) | (rw [evS]; rfl)
theorem s_asgLc (i : Nat) (own : List (PySem.Str × Nat)) (tg : Tg) (it : It) (c : Eo) (e : E) : evS cf wf (.asgLc i own tg it c e) ρ s = (evE cf (.lc own tg it c e) ρ s).fl ρ fun x s => (keepR x s).fl ρ fun d s => .nx (ρ.set i (some d)) s := by first | (rw [evS]; done) | (rw [evS]; rfl)
theorem s_asgLcF (i : Nat) (own : List (PySem.Str × Nat)) (tg : Tg) (it : It) (c : Eo) (e : E) : evS cf wf (.asgLcF i own tg it c e) ρ s = (evE cf (.lc own tg it c e) ρ s).fl ρ fun x s => .nx (ρ.set i (some x.froz)) s := by first | (rw [evS]; done) | (rw [evS]; rfl)
theorem s_put (o i e : E) : evS cf wf (.put o i e) ρ s = (evE cf e ρ s).fl ρ fun x s => (keepR x s).fl ρ fun d s => (evE cf o ρ s).fl ρ fun o s => (evE cf i ρ s).fl ρ fun y s => match y with
      | .v k => (match putAt o k d s with | some s => .nx ρ s | none => .bad)
      | _ => .bad := by first | (rw [evS]; done) | (rw [evS]; rfl)
theorem s_putT (o : E) (k : Es) (e : E) : evS cf wf (.putT o k e) ρ s = (evE cf e ρ s).fl ρ fun x s => (keepR x s).fl ρ fun d s => (evE cf o ρ s).fl ρ fun o s => (evEs cf k ρ s).fl ρ fun ks s => if ks.length ≤ LIM then (match dicPutT o ks d s with | some s => .nx ρ s | none => .bad) else .bad := by first | (rw [evS]; done) | (rw [evS]; rfl)
theorem s_sat (c : PySem.Str) (o : E) (f : PySem.Str) (e : E) : evS cf wf (.sat c o f e) ρ s = (evE cf e ρ s).fl ρ fun x s => (keepR x s).fl ρ fun d s => (evE cf o ρ s).fl ρ fun o s => match fldPut c o f d s with | some s => .nx ρ s | none => .bad := by first | (rw [evS]; done) | (rw [evS]; rfl)
theorem s_ite (c : E) (a b : Ss) : evS cf wf (.ite c a b) ρ s = (evE cf c ρ s).fl ρ fun x s => match truth x s with | some true => evSs cf wf a ρ s | some false => evSs cf wf b ρ s | none => .bad := by first | (rw [evS]; done) | (rw [evS]; rfl)
theorem s_ret (e : E) : evS cf wf (.ret e) ρ s = (evE cf e ρ s).fl ρ fun x s => .rt x s := by first | (rw [evS]; done) | (rw [evS]; rfl)
theorem s_ret0 : evS cf wf .ret0 ρ s = .rt (.v .non) s := by first | (rw [evS]; done) | (rw [evS]; rfl)
theorem s_raise (c : PySem.Str) (es : Es) : evS cf wf (.raise c es) ρ s = (evEs cf es ρ s).fl ρ fun ds s => match ds with | [d] => .ex ρ ⟨c, d⟩ s | _ => .bad := by first | (rw [evS]; done) | (rw [evS]; rfl)
theorem s_expr (e : E) : evS cf wf (.expr e) ρ s = (evE cf e ρ s).fl ρ fun _ s => .nx ρ s := by first | (rw [evS]; done) | (rw [evS]; rfl)
theorem s_for {t : Tg} {it : It} {b : Ss} {I : Items} {s' : Sto} (h : evIt cf it ρ s = .ok I s') : evS cf wf (.for_ t it b) ρ s = forLoop (forF t (evSs cf wf b)) I.src I.xs ρ s' := by rw [evS, h]; rfl
theorem ss_nil : evSs cf wf .nil ρ s = .nx ρ s := by first | (rw [evSs]; done) | (rw [evSs]; rfl)
theorem ss_cons (st : S) (r : Ss) : evSs cf wf (.cons st r) ρ s = (evS cf wf st ρ s).then fun ρ s => evSs cf wf r ρ s := by first | (rw [evSs]; done) | (rw [evSs]; rfl)
end

/-! ### targets -/
@[simp] theorem bt_nm (i : Nat) (d : D) (ρ : Env) : bindT (.nm i) d ρ = some (ρ.set i (some d)) := rfl
@[simp] theorem bt_tp (ts : Tgs) (xs : List D) (ρ : Env) : bindT (.tp ts) (.tup xs) ρ = if xs.length = ts.len then bindTs ts xs ρ else none := rfl
@[simp] theorem bts_nil (ρ : Env) : bindTs .nil [] ρ = some ρ := rfl
@[simp] theorem bts_cons (t : Tg) (ts : Tgs) (x : D) (xs : List D) (ρ : Env) : bindTs (.cons t ts) (x :: xs) ρ = (bindT t x ρ).bind fun ρ => bindTs ts xs ρ := rfl
@[simp] theorem tl_nil : Tgs.len .nil = 0 := rfl
@[simp] theorem tl_cons (t : Tg) (ts : Tgs) : Tgs.len (.cons t ts) = ts.len + 1 := rfl
/-! ### values, case by case -/
section
variable (s : Sto)
@[simp] theorem seq_t (xs : List D) : seqOf (.v (.tup xs)) s = some xs := rfl
@[simp] theorem seq_l (xs : List D) : seqOf (.l xs) s = some xs := rfl
@[simp] theorem seq_f (xs : List D) : seqOf (.v (.fro xs)) s = some xs := rfl
@[simp] theorem lst_l (xs : List D) : lstOf (.l xs) s = some xs := rfl
@[simp] theorem lst_f (xs : List D) : lstOf (.v (.fro xs)) s = some xs := rfl
theorem lst_loc {n : Nat} {xs : List D} (h : s[n]? = some (.lst xs)) : lstOf (.v (.loc n)) s = some xs := by simp [lstOf, lstAt, h]
theorem seq_loc {n : Nat} {xs : List D} (h : s[n]? = some (.lst xs)) : seqOf (.v (.loc n)) s = some xs := by simp [seqOf, lstOf, lstAt, h]
@[simp] theorem ty_n : tyOf (.v .non) s = some "NoneType" := rfl
@[simp] theorem ty_b (b : Bool) : tyOf (.v (.bl b)) s = some "bool" := rfl
@[simp] theorem ty_i (b : Int) : tyOf (.v (.int b)) s = some "int" := rfl
@[simp] theorem ty_s (b : PySem.Str) : tyOf (.v (.str b)) s = some "str" := rfl
@[simp] theorem ty_t (xs : List D) : tyOf (.v (.tup xs)) s = some "tuple" := rfl
@[simp] theorem ty_f (xs : List D) : tyOf (.v (.fro xs)) s = some "list" := rfl
@[simp] theorem ty_l (xs : List D) : tyOf (.l xs) s = some "list" := rfl
@[simp] theorem bi_len_t (xs : List D) : biT .len [.v (.tup xs)] s = some (.v (.int xs.length)) := rfl
@[simp] theorem bi_len_f (xs : List D) : biT .len [.v (.fro xs)] s = some (.v (.int xs.length)) := rfl
@[simp] theorem bi_len_l (xs : List D) : biT .len [.l xs] s = some (.v (.int xs.length)) := rfl
theorem bi_len_loc {n : Nat} {xs : List D} (h : s[n]? = some (.lst xs)) : biT .len [.v (.loc n)] s = some (.v (.int xs.length)) := by simp [biT, seqOf, lstOf, lstAt, h]
@[simp] theorem bi_int_i (i : Int) : biT .int [.v (.int i)] s = some (.v (.int i)) := rfl
@[simp] theorem bi_int_b (b : Bool) : biT .int [.v (.bl b)] s = some (.v (.int (if b then 1 else 0))) := rfl
@[simp] theorem bi_abs (i : Int) : biT .abs [.v (.int i)] s = some (.v (.int (if i < 0 then -i else i))) := rfl
@[simp] theorem bi_isinst (x : T) (c : String) : biT .isinst [x, .v (.ty c)] s = (tyOf x s).bind fun t => if c ∈ kinds then some (.v (.bl (isSub t c))) else none := rfl
@[simp] theorem bi_all (x : T) : biT .all [x] s = ((lstOf x s).bind bools).map fun bs => .v (.bl (bs.all id)) := rfl
@[simp] theorem bi_any (x : T) : biT .any [x] s = ((lstOf x s).bind bools).map fun bs => .v (.bl (bs.any id)) := rfl
@[simp] theorem bi_tuple (x : T) : biT .tuple [x] s = (seqOf x s).map fun xs => .v (.tup xs) := rfl
@[simp] theorem bi_list (x : T) : biT .list [x] s = (seqOf x s).map fun xs => .l xs := rfl
@[simp] theorem eq_ii (a b : Int) : eqT (.v (.int a)) (.v (.int b)) s = some (decide (a = b)) := rfl
@[simp] theorem eq_ss (a b : PySem.Str) : eqT (.v (.str a)) (.v (.str b)) s = some (decide (a = b)) := rfl
@[simp] theorem eq_bb (a b : Bool) : eqT (.v (.bl a)) (.v (.bl b)) s = some (a == b) := rfl
@[simp] theorem is_n (d : D) : isT (.v d) (.v .non) = some (match d with | .non => true | _ => false) := by cases d <;> rfl
@[simp] theorem is_bb (a b : Bool) : isT (.v (.bl a)) (.v (.bl b)) = some (a == b) := rfl
@[simp] theorem ord_ii (op : Nat) (a b : Int) : ordT op (.v (.int a)) (.v (.int b)) = some (ordI op a b) := rfl
@[simp] theorem ordI0 (a b : Int) : ordI 0 a b = decide (a < b) := rfl
@[simp] theorem ordI1 (a b : Int) : ordI 1 a b = decide (a ≤ b) := rfl
@[simp] theorem ordI2 (a b : Int) : ordI 2 a b = decide (b < a) := rfl
@[simp] theorem ordI3 (a b : Int) : ordI 3 a b = decide (b ≤ a) := rfl
@[simp] theorem idx_t (xs : List D) (i : Int) : idxT (.v (.tup xs)) (.v (.int i)) s = (L2.atI xs i).map .v := rfl
@[simp] theorem idx_f (xs : List D) (i : Int) : idxT (.v (.fro xs)) (.v (.int i)) s = (L2.atI xs i).map .v := rfl
@[simp] theorem idx_l (xs : List D) (i : Int) : idxT (.l xs) (.v (.int i)) s = (L2.atI xs i).map .v := rfl
theorem idx_loc {n : Nat} {xs : List D} (h : s[n]? = some (.lst xs)) (i : Int) : idxT (.v (.loc n)) (.v (.int i)) s = (L2.atI xs i).map .v := by simp [idxT, dicAt, h, seqOf, lstOf, lstAt]
@[simp] theorem at0 (a : D) (l : List D) : L2.atI (a :: l) 0 = some a := L2.atI_nat (j := 0) rfl
@[simp] theorem at1 (a b : D) (l : List D) : L2.atI (a :: b :: l) 1 = some b := L2.atI_nat (j := 1) rfl
@[simp] theorem at2 (a b c : D) (l : List D) : L2.atI (a :: b :: c :: l) 2 = some c := L2.atI_nat (j := 2) rfl
@[simp] theorem at3 (a b c d : D) (l : List D) : L2.atI (a :: b :: c :: d :: l) 3 = some d := L2.atI_nat (j := 3) rfl
@[simp] theorem b_add (a b : Int) : binT .add (.v (.int a)) (.v (.int b)) s = some (.v (.int (a + b))) := rfl
@[simp] theorem b_sub (a b : Int) : binT .sub (.v (.int a)) (.v (.int b)) s = some (.v (.int (a - b))) := rfl
@[simp] theorem b_mul (a b : Int) : binT .mul (.v (.int a)) (.v (.int b)) s = if mulOk a b then some (.v (.int (a * b))) else none := rfl
@[simp] theorem b_fdiv (a b : Int) : binT .fdiv (.v (.int a)) (.v (.int b)) s = if divOk b then some (.v (.int (a / b))) else none := rfl
@[simp] theorem b_mod (a b : Int) : binT .mod (.v (.int a)) (.v (.int b)) s = if 0 < b then some (.v (.int (a % b))) else none := rfl
@[simp] theorem b_addt (a b : List D) : binT .add (.v (.tup a)) (.v (.tup b)) s = if a.length + b.length ≤ LIM then some (.v (.tup (a ++ b))) else none := rfl
@[simp] theorem b_addll (a b : List D) : binT .add (.l a) (.l b) s = if a.length + b.length ≤ LIM then some (.l (a ++ b)) else none := rfl
@[simp] theorem b_mull (a : List D) (b : Int) : binT .mul (.l a) (.v (.int b)) s = if b.natAbs ≤ 100000000 ∧ a.length * b.toNat ≤ LIM then some (.l (List.replicate b.toNat a).flatten) else none := rfl
@[simp] theorem tr_b (b : Bool) : truth (.v (.bl b)) s = some b := rfl
@[simp] theorem tr_n : truth (.v .non) s = some false := rfl
@[simp] theorem tr_i (i : Int) : truth (.v (.int i)) s = some (i != 0) := rfl
@[simp] theorem tr_t (xs : List D) : truth (.v (.tup xs)) s = some (!xs.isEmpty) := rfl
@[simp] theorem slc_t (xs : List D) (a b : Option Int) : slcT (.v (.tup xs)) a b s = some (.v (.tup (cutD xs a b))) := rfl
@[simp] theorem slc_f (xs : List D) (a b : Option Int) : slcT (.v (.fro xs)) a b s = some (.l (cutD xs a b)) := rfl
@[simp] theorem slc_l (xs : List D) (a b : Option Int) : slcT (.l xs) a b s = some (.l (cutD xs a b)) := rfl
@[simp] theorem it_t (xs : List D) : itemsOf (.v (.tup xs)) s = some ⟨xs, []⟩ := rfl
@[simp] theorem it_f (xs : List D) : itemsOf (.v (.fro xs)) s = some ⟨xs, []⟩ := rfl
@[simp] theorem it_l (xs : List D) : itemsOf (.l xs) s = some ⟨xs, []⟩ := rfl
theorem it_loc {n : Nat} {xs : List D} (h : s[n]? = some (.lst xs)) : itemsOf (.v (.loc n)) s = some ⟨xs, [(n, xs)]⟩ := by simp [itemsOf, lstAt, h]
@[simp] theorem en_t (xs : List D) : enumOf (.v (.tup xs)) s = some ⟨xs.zipIdx.map fun p => .tup [.int (p.2 : Nat), p.1], []⟩ := rfl
@[simp] theorem en_f (xs : List D) : enumOf (.v (.fro xs)) s = some ⟨xs.zipIdx.map fun p => .tup [.int (p.2 : Nat), p.1], []⟩ := rfl
@[simp] theorem en_l (xs : List D) : enumOf (.l xs) s = some ⟨xs.zipIdx.map fun p => .tup [.int (p.2 : Nat), p.1], []⟩ := rfl
@[simp] theorem zp_tt (xs ys : List D) : zipOf (.v (.tup xs)) (.v (.tup ys)) s = some ⟨(xs.zip ys).map fun p => .tup [p.1, p.2], []⟩ := rfl
@[simp] theorem zp_tf (xs ys : List D) : zipOf (.v (.tup xs)) (.v (.fro ys)) s = some ⟨(xs.zip ys).map fun p => .tup [p.1, p.2], []⟩ := rfl
@[simp] theorem zp_ff (xs ys : List D) : zipOf (.v (.fro xs)) (.v (.fro ys)) s = some ⟨(xs.zip ys).map fun p => .tup [p.1, p.2], []⟩ := rfl
end
/-! ### behind a call -/
theorem kept_app (n : Nat) : ∀ s x : Sto, keptB n s (s ++ x) = true
  | [], _ => rfl
  | o :: os, x => by simp [keptB, kept_app n os x]
theorem kept_self (n : Nat) (s : Sto) : keptB n s s = true := by
  have := kept_app n s []
  rwa [List.append_nil] at this
mutual
theorem under_le {a b : Nat} (h : a ≤ b) : ∀ d : D, D.under a d = true → D.under b d = true
  | .loc m, u => by simp only [D.under, decide_eq_true_eq] at u ⊢; omega
  | .tup xs, u => by simp only [D.under] at u ⊢; exact unders_le h xs u
  | .fro xs, u => by simp only [D.under] at u ⊢; exact unders_le h xs u
  | .non, _ => rfl
  | .bl _, _ => rfl
  | .int _, _ => rfl
  | .str _, _ => rfl
  | .ty _, _ => rfl
  | .gl _, _ => rfl
theorem unders_le {a b : Nat} (h : a ≤ b) : ∀ d : List D, D.unders a d = true → D.unders b d = true
  | [], _ => rfl
  | x :: xs, u => by
    simp only [D.unders, Bool.and_eq_true] at u ⊢
    exact ⟨under_le h x u.1, unders_le h xs u.2⟩
end
theorem unders_all {n : Nat} : ∀ {xs : List D}, (∀ x ∈ xs, D.under n x = true) → D.unders n xs = true
  | [], _ => rfl
  | x :: xs, h => by
    simp only [D.unders, Bool.and_eq_true]
    exact ⟨h x (by simp), unders_all fun y hy => h y (by simp [hy])⟩
theorem unders_mem {n : Nat} : ∀ {xs : List D}, D.unders n xs = true → ∀ x ∈ xs, D.under n x = true
  | [], _, x, h => by cases h
  | y :: ys, u, x, h => by
    simp only [D.unders, Bool.and_eq_true] at u
    rcases List.mem_cons.mp h with rfl | h
    · exact u.1
    · exact unders_mem u.2 x h
theorem unders_map {α : Type} {n : Nat} {f : α → D} (xs : List α) (h : ∀ x ∈ xs, D.under n (f x) = true) : D.unders n (xs.map f) = true :=
  unders_all fun d hd => by
    obtain ⟨x, hx, rfl⟩ := List.mem_map.mp hd
    exact h x hx
theorem unders_app {n : Nat} {xs ys : List D} (h1 : D.unders n xs = true) (h2 : D.unders n ys = true) : D.unders n (xs ++ ys) = true :=
  unders_all fun d hd => (List.mem_append.mp hd).elim (unders_mem h1 d) (unders_mem h2 d)
theorem reD_under {n k : Nat} {s : Sto} {d : D} (h : D.under n d = true) : reD n s k d = some d := by cases k <;> simp [reD, h]
theorem reL_under {n k : Nat} {s : Sto} : ∀ {xs : List D}, D.unders n xs = true → reL (reD n s k) xs = some xs
  | [], _ => rfl
  | x :: xs, h => by
    simp only [D.unders, Bool.and_eq_true] at h
    simp [reL, reD_under h.1, reL_under h.2]
/-- s' stands behind what began at s; s1 is what is kept of it -/
structure Kp (s s' s1 : Sto) : Prop where
  k : keptB s.length s s' = true
  t : s'.take s.length = s1
theorem Kp.self (s : Sto) : Kp s s s := ⟨kept_self _ s, by simp⟩
theorem Kp.app (s x : Sto) : Kp s (s ++ x) s := ⟨kept_app _ s x, by simp⟩
section
variable {s s' s1 : Sto}
theorem Kp.v (h : Kp s s' s1) {d : D} (u : D.under s.length d = true) : tidy s (.v d) s' = .ok (.v d) s1 := by
  have e : reT s.length s' (.v d) = some (.v d) := by
    cases d with
    | loc m =>
      have : m < s.length := by simpa [D.under] using u
      simp [reT, this]
    | _ => simp [reT, reD_under u]
  unfold tidy
  rw [h.k, if_pos rfl, e, ← h.t]
theorem Kp.n (h : Kp s s' s1) {d : D} (u : D.under 0 d = true) : tidy s (.v d) s' = .ok (.v d) s1 := h.v (under_le (Nat.zero_le _) d u)
theorem Kp.l (h : Kp s s' s1) {xs : List D} (u : D.unders s.length xs = true) : tidy s (.l xs) s' = .ok (.l xs) s1 := by
  unfold tidy
  rw [h.k, if_pos rfl]
  simp [reT, reL_under u, h.t]
theorem Kp.ln (h : Kp s s' s1) {xs : List D} (u : D.unders 0 xs = true) : tidy s (.l xs) s' = .ok (.l xs) s1 := h.l (unders_le (Nat.zero_le _) xs u)
theorem Kp.ll (h : Kp s s' s1) {m : Nat} {xs : List D} (hm : s.length ≤ m) (e : s'[m]? = some (.lst xs)) (u : D.unders s.length xs = true) : tidy s (.v (.loc m)) s' = .ok (.l xs) s1 := by
  unfold tidy
  rw [h.k, if_pos rfl]
  simp [reT, Nat.not_lt.mpr hm, e, reL_under u, h.t]
end
theorem Kp.tl {s s' s1 : Sto} (h : Kp s s' s1) {a b : D} {m : Nat} {xs : List D} (ua : D.under 0 a = true) (ub : D.under 0 b = true) (hm : s.length ≤ m) (e : s'[m]? = some (.lst xs)) (u : D.unders 0 xs = true) :
    tidy s (.v (.tup [a, b, .loc m])) s' = .ok (.v (.tup [a, b, .fro xs])) s1 := by
  have u1 := under_le (Nat.zero_le s.length) a ua
  have u2 := under_le (Nat.zero_le s.length) b ub
  have u3 := unders_le (Nat.zero_le s.length) xs u
  have r1 : ∀ k, reD s.length s' k a = some a := fun k => reD_under u1
  have r2 : ∀ k, reD s.length s' k b = some b := fun k => reD_under u2
  have r3 : ∀ k, reD s.length s' (k + 1) (.loc m) = some (.fro xs) := fun k => by
    simp [reD, D.under, Nat.not_lt.mpr hm, e, reL_under u3]
  have r0 : reD s.length s' 8 (.tup [a, b, .loc m]) = some (.tup [a, b, .fro xs]) := by
    rw [reD]
    simp only [D.under, D.unders, u1, u2, Nat.not_lt.mpr hm, decide_false, Bool.true_and, Bool.and_true, Bool.false_and, Bool.false_eq_true, if_false, reL, r1, r2, r3, Option.bind_some, Option.map_some]
  unfold tidy
  rw [h.k, if_pos rfl]
  simp [reT, r0, h.t]
theorem putAt_loc {s : Sto} {n : Nat} {xs : List D} (h : s[n]? = some (.lst xs)) (k : Int) (d : D) : putAt (.v (.loc n)) (.int k) d s = (L2.ixN xs.length k).map fun j => s.set n (.lst (xs.set j d)) := by
  simp [putAt, dicPut, h]
/-! ### loops -/
/-- a comprehension that draws nothing -/
theorem lc_pure {α : Type} {F : D → Sto → R (Option D)} {A : α → D} {G : α → Option D} {s : Sto} {src : List (Nat × List D)} (hs : stands src s = true) : ∀ (ys : List α) (acc : List D), (∀ y ∈ ys, F (A y) s = .ok (G y) s) → acc.length + ys.length ≤ LIM → lcLoop F src (ys.map A) acc s = .ok (.l (acc ++ ys.filterMap G)) s
  | [], acc, _, _ => by simp [lcLoop, hs]
  | y :: ys, acc, h, hl => by
    simp only [List.length_cons] at hl
    have e1 := h y (by simp)
    have hlt : acc.length < LIM := by omega
    cases hg : G y with
    | none =>
      have e2 := lc_pure hs ys acc (fun z hz => h z (by simp [hz])) (by omega)
      simp [lcLoop, hs, e1, hg, e2]
    | some d =>
      have e2 := lc_pure hs ys (acc ++ [d]) (fun z hz => h z (by simp [hz])) (by simp; omega)
      simp [lcLoop, hs, e1, hg, hlt, e2]
theorem lc_map {α : Type} {F : D → Sto → R (Option D)} {A : α → D} {G : α → D} {s : Sto} {src : List (Nat × List D)} (hs : stands src s = true) (ys : List α) (h : ∀ y ∈ ys, F (A y) s = .ok (some (G y)) s) (hl : ys.length ≤ LIM) : lcLoop F src (ys.map A) [] s = .ok (.l (ys.map G)) s := by
  have := lc_pure (A := A) (G := fun y => some (G y)) hs ys [] h (by simpa using hl)
  rw [this, List.nil_append, List.filterMap_eq_map']
theorem isLst_loc {s : Sto} {n : Nat} {xs : List D} (h : s[n]? = some (.lst xs)) : isLst (.v (.loc n)) s = some (.v (.loc n)) := by simp [isLst, lstOf, lstAt, h]
theorem appT_loc {s : Sto} {n : Nat} {xs : List D} (h : s[n]? = some (.lst xs)) (hl : xs.length < LIM) (d : D) : appT (.v (.loc n)) [d] s = .ok (.v .non) (s.set n (.lst (xs ++ [d]))) := by simp [appT, h, hl]
theorem extT_loc {s : Sto} {n : Nat} {xs ys : List D} (h : s[n]? = some (.lst xs)) (hl : xs.length + ys.length ≤ LIM) : meT .ext (.v (.loc n)) [.l ys] s = .ok (.v .non) (s.set n (.lst (xs ++ ys))) := by simp [meT, h, mlstOf, hl]
theorem LIM_le {n : Nat} (h : n ≤ 100000) : n ≤ LIM := Nat.le_trans h (by decide)
theorem LIM_lt {n : Nat} (h : n ≤ 100000) : n < LIM := Nat.lt_of_le_of_lt h (by decide)
end Fy
end
section
set_option Elab.async false
set_option linter.all false
set_option maxRecDepth 100000
set_option maxHeartbeats 1000000
set_option linter.unusedSimpArgs false
/-! Mb: numbers, rows, what is alike. -/
namespace Fam
open Fy
/-! plain data: no place, nothing of the text -/
mutual
def pl : D → Bool
  | .tup xs => pls xs
  | .fro xs => pls xs
  | .loc _ => false
  | .ty _ => false
  | .gl _ => false
  | _ => true
def pls : List D → Bool
  | [] => true
  | x :: xs => pl x && pls xs
end
theorem pls_mem : ∀ {xs : List D}, pls xs = true → ∀ x ∈ xs, pl x = true
  | [], _, x, h => by cases h
  | y :: ys, u, x, h => by
    simp only [pls, Bool.and_eq_true] at u
    rcases List.mem_cons.mp h with rfl | h
    · exact u.1
    · exact pls_mem u.2 x h
theorem pls_of : ∀ {xs : List D}, (∀ x ∈ xs, pl x = true) → pls xs = true
  | [], _ => rfl
  | y :: ys, h => by
    simp only [pls, Bool.and_eq_true]
    exact ⟨h y (by simp), pls_of fun x hx => h x (by simp [hx])⟩
theorem pls_ints (xs : List Int) : pls (xs.map .int) = true := pls_of fun x hx => by
  obtain ⟨i, _, rfl⟩ := List.mem_map.mp hx
  rfl
mutual
theorem pl_under : ∀ d : D, pl d = true → D.under 0 d = true
  | .tup xs, h => by simp only [pl, D.under] at h ⊢; exact pls_under xs h
  | .fro xs, h => by simp only [pl, D.under] at h ⊢; exact pls_under xs h
  | .loc _, h => by simp [pl] at h
  | .non, _ => rfl
  | .bl _, _ => rfl
  | .int _, _ => rfl
  | .str _, _ => rfl
  | .ty _, _ => rfl
  | .gl _, _ => rfl
theorem pls_under : ∀ d : List D, pls d = true → D.unders 0 d = true
  | [], _ => rfl
  | x :: xs, h => by
    simp only [pls, D.unders, Bool.and_eq_true] at h ⊢
    exact ⟨pl_under x h.1, pls_under xs h.2⟩
end
def isInt : D → Bool
  | .int _ => true
  | _ => false
def num : Option Int → D → Bool
  | none, .int i => decide (0 ≤ i)
  | some j, .int i => decide (0 ≤ i) && decide (i ≤ j)
  | _, _ => false
def siz (j : Int) : D → Bool
  | .int i => decide (0 < i) && decide (i ≤ j)
  | _ => false
def seqB : D → Bool
  | .tup _ => true
  | .fro _ => true
  | _ => false
def rowB (ms : List Int) : D → Bool
  | .tup xs => decide (xs.length = ms.length) && (xs.zip ms).all fun p => num (some p.2) p.1
  | _ => false
section
variable {tb : Tab} {wf : Nat}
theorem is_integer (T : H_is_integer tb) (k : Nat) (s : Sto) {d : D} (hv : pl d = true) : run tb wf (k+1) "is_integer" [d] s = .ok (.v (.bl (isInt d))) s := by
  have ht := fun b => (Kp.self s).n (d := .bl b) rfl
  rw [run, T.is_integer]
  cases d <;> first | (simp [pl] at hv; done) | simp [e_var, e_int, e_bl, e_non, e_str, e_tyn, e_con, e_bin, e_neg, e_cmp, e_chain, e_and, e_or, e_not, e_ite, e_tup, e_lst, e_idx, e_slc, e_dnewT, e_dgetT, e_fz, e_attr, e_isi, e_sset, e_new, e_call, e_bi, e_heard2, e_app, e_me, es_nil, es_cons, ts_nil, ts_cons, eo_none, eo_some, ec_none, ec_some, i_seq, i_rng, i_zip, i_enum, s_asg, s_par2, s_asgLc, s_asgLcF, s_put, s_putT, s_sat, s_ite, s_ret, s_ret0, s_raise, s_expr, ss_nil, ss_cons, Fl.then, Fl.res, Fn.fill, cmpT, f_is_integer, kinds, isSub, ht, isInt]
theorem is_number1 (T : H_is_number tb) (k : Nat) (s : Sto) {d : D} (hv : pl d = true) : run tb wf (k+2) "is_number" [d] s = .ok (.v (.bl (num none d))) s := by
  have ht := fun b => (Kp.self s).n (d := .bl b) rfl
  have h1 := is_integer (wf := wf) T.toH_is_integer k s hv
  rw [run, T.is_number]
  cases d with
  | int i => by_cases hi : 0 ≤ i <;> simp [e_var, e_int, e_bl, e_non, e_str, e_tyn, e_con, e_bin, e_neg, e_cmp, e_chain, e_and, e_or, e_not, e_ite, e_tup, e_lst, e_idx, e_slc, e_dnewT, e_dgetT, e_fz, e_attr, e_isi, e_sset, e_new, e_call, e_bi, e_heard2, e_app, e_me, es_nil, es_cons, ts_nil, ts_cons, eo_none, eo_some, ec_none, ec_some, i_seq, i_rng, i_zip, i_enum, s_asg, s_par2, s_asgLc, s_asgLcF, s_put, s_putT, s_sat, s_ite, s_ret, s_ret0, s_raise, s_expr, ss_nil, ss_cons, Fl.then, Fl.res, Fn.fill, cmpT, f_is_number, h1, isInt, ht, num, hi]
  | _ => first | (simp [pl] at hv; done) | simp [e_var, e_int, e_bl, e_non, e_str, e_tyn, e_con, e_bin, e_neg, e_cmp, e_chain, e_and, e_or, e_not, e_ite, e_tup, e_lst, e_idx, e_slc, e_dnewT, e_dgetT, e_fz, e_attr, e_isi, e_sset, e_new, e_call, e_bi, e_heard2, e_app, e_me, es_nil, es_cons, ts_nil, ts_cons, eo_none, eo_some, ec_none, ec_some, i_seq, i_rng, i_zip, i_enum, s_asg, s_par2, s_asgLc, s_asgLcF, s_put, s_putT, s_sat, s_ite, s_ret, s_ret0, s_raise, s_expr, ss_nil, ss_cons, Fl.then, Fl.res, Fn.fill, cmpT, f_is_number, h1, isInt, ht, num]
theorem is_number2 (T : H_is_number tb) (k : Nat) (s : Sto) {d : D} {j : Int} (hv : pl d = true) : run tb wf (k+2) "is_number" [d, .int j] s = .ok (.v (.bl (num (some j) d))) s := by
  have ht := fun b => (Kp.self s).n (d := .bl b) rfl
  have h1 := is_integer (wf := wf) T.toH_is_integer k s hv
  rw [run, T.is_number]
  cases d with
  | int i => by_cases hi : 0 ≤ i <;> by_cases hj : i ≤ j <;> simp [e_var, e_int, e_bl, e_non, e_str, e_tyn, e_con, e_bin, e_neg, e_cmp, e_chain, e_and, e_or, e_not, e_ite, e_tup, e_lst, e_idx, e_slc, e_dnewT, e_dgetT, e_fz, e_attr, e_isi, e_sset, e_new, e_call, e_bi, e_heard2, e_app, e_me, es_nil, es_cons, ts_nil, ts_cons, eo_none, eo_some, ec_none, ec_some, i_seq, i_rng, i_zip, i_enum, s_asg, s_par2, s_asgLc, s_asgLcF, s_put, s_putT, s_sat, s_ite, s_ret, s_ret0, s_raise, s_expr, ss_nil, ss_cons, Fl.then, Fl.res, Fn.fill, cmpT, f_is_number, h1, isInt, ht, num, hi, hj]
  | _ => first | (simp [pl] at hv; done) | simp [e_var, e_int, e_bl, e_non, e_str, e_tyn, e_con, e_bin, e_neg, e_cmp, e_chain, e_and, e_or, e_not, e_ite, e_tup, e_lst, e_idx, e_slc, e_dnewT, e_dgetT, e_fz, e_attr, e_isi, e_sset, e_new, e_call, e_bi, e_heard2, e_app, e_me, es_nil, es_cons, ts_nil, ts_cons, eo_none, eo_some, ec_none, ec_some, i_seq, i_rng, i_zip, i_enum, s_asg, s_par2, s_asgLc, s_asgLcF, s_put, s_putT, s_sat, s_ite, s_ret, s_ret0, s_raise, s_expr, ss_nil, ss_cons, Fl.then, Fl.res, Fn.fill, cmpT, f_is_number, h1, isInt, ht, num]
theorem is_size (T : H_is_size tb) (k : Nat) (s : Sto) {d : D} {j : Int} (hv : pl d = true) : run tb wf (k+3) "is_size" [d, .int j] s = .ok (.v (.bl (siz j d))) s := by
  have ht := fun b => (Kp.self s).n (d := .bl b) rfl
  have h1 := is_number2 (wf := wf) T.toH_is_number k s (j := j) hv
  rw [run, T.is_size]
  cases d with
  | int i =>
    by_cases hi : 0 < i <;> by_cases hj : i ≤ j
    all_goals
      by_cases h0 : 0 ≤ i
      all_goals first
        | (exfalso; omega)
        | simp [e_var, e_int, e_bl, e_non, e_str, e_tyn, e_con, e_bin, e_neg, e_cmp, e_chain, e_and, e_or, e_not, e_ite, e_tup, e_lst, e_idx, e_slc, e_dnewT, e_dgetT, e_fz, e_attr, e_isi, e_sset, e_new, e_call, e_bi, e_heard2, e_app, e_me, es_nil, es_cons, ts_nil, ts_cons, eo_none, eo_some, ec_none, ec_some, i_seq, i_rng, i_zip, i_enum, s_asg, s_par2, s_asgLc, s_asgLcF, s_put, s_putT, s_sat, s_ite, s_ret, s_ret0, s_raise, s_expr, ss_nil, ss_cons, Fl.then, Fl.res, Fn.fill, cmpT, f_is_size, h1, ht, num, siz, hi, hj, h0]
  | _ => first | (simp [pl] at hv; done) | simp [e_var, e_int, e_bl, e_non, e_str, e_tyn, e_con, e_bin, e_neg, e_cmp, e_chain, e_and, e_or, e_not, e_ite, e_tup, e_lst, e_idx, e_slc, e_dnewT, e_dgetT, e_fz, e_attr, e_isi, e_sset, e_new, e_call, e_bi, e_heard2, e_app, e_me, es_nil, es_cons, ts_nil, ts_cons, eo_none, eo_some, ec_none, ec_some, i_seq, i_rng, i_zip, i_enum, s_asg, s_par2, s_asgLc, s_asgLcF, s_put, s_putT, s_sat, s_ite, s_ret, s_ret0, s_raise, s_expr, ss_nil, ss_cons, Fl.then, Fl.res, Fn.fill, cmpT, f_is_size, h1, ht, num, siz]
theorem is_sequence (T : H_is_sequence tb) (k : Nat) (s : Sto) {d : D} (hv : pl d = true) : run tb wf (k+1) "is_sequence" [d] s = .ok (.v (.bl (seqB d))) s := by
  have ht := fun b => (Kp.self s).n (d := .bl b) rfl
  rw [run, T.is_sequence]
  cases d <;> first | (simp [pl] at hv; done) | simp [e_var, e_int, e_bl, e_non, e_str, e_tyn, e_con, e_bin, e_neg, e_cmp, e_chain, e_and, e_or, e_not, e_ite, e_tup, e_lst, e_idx, e_slc, e_dnewT, e_dgetT, e_fz, e_attr, e_isi, e_sset, e_new, e_call, e_bi, e_heard2, e_app, e_me, es_nil, es_cons, ts_nil, ts_cons, eo_none, eo_some, ec_none, ec_some, i_seq, i_rng, i_zip, i_enum, s_asg, s_par2, s_asgLc, s_asgLcF, s_put, s_putT, s_sat, s_ite, s_ret, s_ret0, s_raise, s_expr, ss_nil, ss_cons, Fl.then, Fl.res, Fn.fill, cmpT, f_is_sequence, isSub, ht, seqB]
/-- the elements of a row, each asked -/
theorem row_lc (T : H_is_number tb) (k : Nat) (s : Sto) (xs : List D) (ms : List Int) (M : D) (hv : pls xs = true) (hM : zipOf (.v (.tup xs)) (.v M) s = some ⟨(xs.zip ms).map fun p => .tup [p.1, .int p.2], []⟩) (hl : xs.length ≤ 100000) :
    evE (run tb wf (k+2)) (.lc [("one", 2), ("most", 3)] (.tp (.cons (.nm 2) (.cons (.nm 3) .nil))) (.zip (.var 0) (.var 1)) .none (.call "is_number" (.cons (.var 2) (.cons (.var 3) .nil)))) [some (.tup xs), some M, none, none] s =
      .ok (.l ((xs.zip ms).map fun p => .bl (num (some p.2) p.1))) s := by
  rw [e_lc (I := ⟨(xs.zip ms).map fun p => .tup [p.1, .int p.2], []⟩) (s' := s) (by simp [e_var, e_int, e_bl, e_non, e_str, e_tyn, e_con, e_bin, e_neg, e_cmp, e_chain, e_and, e_or, e_not, e_ite, e_tup, e_lst, e_idx, e_slc, e_dnewT, e_dgetT, e_fz, e_attr, e_isi, e_sset, e_new, e_call, e_bi, e_heard2, e_app, e_me, es_nil, es_cons, ts_nil, ts_cons, eo_none, eo_some, ec_none, ec_some, i_seq, i_rng, i_zip, i_enum, s_asg, s_par2, s_asgLc, s_asgLcF, s_put, s_putT, s_sat, s_ite, s_ret, s_ret0, s_raise, s_expr, ss_nil, ss_cons, Fl.then, Fl.res, Fn.fill, cmpT, hM])]
  refine lc_map rfl _ (fun p hp => ?_) (LIM_le (Nat.le_trans (by simp; omega) hl))
  obtain ⟨x, j⟩ := p
  have hx := pls_mem hv x (List.of_mem_zip hp).1
  have h1 := is_number2 (wf := wf) T k s (j := j) hx
  simp [e_var, e_int, e_bl, e_non, e_str, e_tyn, e_con, e_bin, e_neg, e_cmp, e_chain, e_and, e_or, e_not, e_ite, e_tup, e_lst, e_idx, e_slc, e_dnewT, e_dgetT, e_fz, e_attr, e_isi, e_sset, e_new, e_call, e_bi, e_heard2, e_app, e_me, es_nil, es_cons, ts_nil, ts_cons, eo_none, eo_some, ec_none, ec_some, i_seq, i_rng, i_zip, i_enum, s_asg, s_par2, s_asgLc, s_asgLcF, s_put, s_putT, s_sat, s_ite, s_ret, s_ret0, s_raise, s_expr, ss_nil, ss_cons, Fl.then, Fl.res, Fn.fill, cmpT, lcF, wipeE, h1]
theorem bools_map {α : Type} (f : α → Bool) (xs : List α) : bools (xs.map fun x => D.bl (f x)) = some (xs.map f) := by
  induction xs with
  | nil => rfl
  | cons x xs ih => simp [bools, ih]
theorem is_row (T : H_is_row tb) (k : Nat) (s : Sto) {d M : D} (ms : List Int) (hv : pl d = true) (hM : M = .tup (ms.map .int) ∨ M = .fro (ms.map .int)) (hl : ms.length ≤ 100000) : run tb wf (k+3) "is_row" [d, M] s = .ok (.v (.bl (rowB ms d))) s := by
  have ht := fun b => (Kp.self s).n (d := .bl b) rfl
  have hlen : biT .len [.v M] s = some (.v (.int (ms.length : Nat))) := by rcases hM with rfl | rfl <;> simp
  rw [run, T.is_row]
  cases d with
  | tup xs =>
    by_cases e : xs.length = ms.length
    · have hz : zipOf (.v (.tup xs)) (.v M) s = some ⟨(xs.zip ms).map fun p => .tup [p.1, .int p.2], []⟩ := by
        rcases hM with rfl | rfl <;> simp [List.zip_map_right, Function.comp_def]
      have hc := row_lc (wf := wf) T.toH_is_number k s xs ms M (by simpa [pl] using hv) hz (by omega)
      have e' : (xs.length : Int) = (ms.length : Int) := by omega
      have hb := bools_map (fun p : D × Int => num (some p.2) p.1) (xs.zip ms)
      simp [e_var, e_int, e_bl, e_non, e_str, e_tyn, e_con, e_bin, e_neg, e_cmp, e_chain, e_and, e_or, e_not, e_ite, e_tup, e_lst, e_idx, e_slc, e_dnewT, e_dgetT, e_fz, e_attr, e_isi, e_sset, e_new, e_call, e_bi, e_heard2, e_app, e_me, es_nil, es_cons, ts_nil, ts_cons, eo_none, eo_some, ec_none, ec_some, i_seq, i_rng, i_zip, i_enum, s_asg, s_par2, s_asgLc, s_asgLcF, s_put, s_putT, s_sat, s_ite, s_ret, s_ret0, s_raise, s_expr, ss_nil, ss_cons, Fl.then, Fl.res, Fn.fill, cmpT, f_is_row, kinds, isSub, hlen, e', hc, hb, ht, rowB, e]
    · have e' : ¬ (xs.length : Int) = (ms.length : Int) := by omega
      have hx : biT .len [.v (.tup xs)] s = some (.v (.int (xs.length : Nat))) := rfl
      have hi : biT .isinst [.v (.tup xs), .v (.ty "tuple")] s = some (.v (.bl true)) := by simp [kinds, isSub]
      simp [e_var, e_int, e_bl, e_non, e_str, e_tyn, e_con, e_bin, e_neg, e_cmp, e_chain, e_and, e_or, e_not, e_ite, e_tup, e_lst, e_idx, e_slc, e_dnewT, e_dgetT, e_fz, e_attr, e_isi, e_sset, e_new, e_call, e_bi, e_heard2, e_app, e_me, es_nil, es_cons, ts_nil, ts_cons, eo_none, eo_some, ec_none, ec_some, i_seq, i_rng, i_zip, i_enum, s_asg, s_par2, s_asgLc, s_asgLcF, s_put, s_putT, s_sat, s_ite, s_ret, s_ret0, s_raise, s_expr, ss_nil, ss_cons, Fl.then, Fl.res, Fn.fill, cmpT, f_is_row, hi, hx, hlen, e', ht, rowB, e]
  | _ => first | (simp [pl] at hv; done) | simp [e_var, e_int, e_bl, e_non, e_str, e_tyn, e_con, e_bin, e_neg, e_cmp, e_chain, e_and, e_or, e_not, e_ite, e_tup, e_lst, e_idx, e_slc, e_dnewT, e_dgetT, e_fz, e_attr, e_isi, e_sset, e_new, e_call, e_bi, e_heard2, e_app, e_me, es_nil, es_cons, ts_nil, ts_cons, eo_none, eo_some, ec_none, ec_some, i_seq, i_rng, i_zip, i_enum, s_asg, s_par2, s_asgLc, s_asgLcF, s_put, s_putT, s_sat, s_ite, s_ret, s_ret0, s_raise, s_expr, ss_nil, ss_cons, Fl.then, Fl.res, Fn.fill, cmpT, f_is_row, kinds, isSub, ht, rowB]
end
end Fam
end
section
set_option Elab.async false
set_option linter.all false
set_option maxRecDepth 100000
set_option maxHeartbeats 1000000
set_option linter.unusedSimpArgs false
/-! Mc: what is alike; the well. -/
namespace Fam
open Fy
/-- data nested n deep at most -/
def dep : Nat → D → Bool
  | 0, d => flat d
  | n + 1, .tup xs => decide (xs.length ≤ 100000) && xs.all (dep n)
  | n + 1, .fro xs => decide (xs.length ≤ 100000) && xs.all (dep n)
  | _ + 1, d => flat d
theorem zip_self (xs : List D) : (xs.zip xs).map (fun p => D.tup [p.1, p.2]) = xs.map fun x => D.tup [x, x] := by
  induction xs with
  | nil => rfl
  | cons x xs ih => simp [ih]
def likeE : E := .lc [("one", 2), ("other", 3)] (.tp (.cons (.nm 2) (.cons (.nm 3) .nil))) (.zip (.var 0) (.var 1)) .none (.call "_law_like" (.cons (.var 2) (.cons (.var 3) .nil)))
section
variable {tb : Tab} {wf : Nat}
theorem like_lc {k : Nat} {s : Sto} {xs : List D} (d : D) (hd : d = .tup xs ∨ d = .fro xs) (hl : xs.length ≤ 100000) (h : ∀ x ∈ xs, run tb wf k "_law_like" [x, x] s = .ok (.v (.bl true)) s) :
    evE (run tb wf k) likeE [some d, some d, none, none] s = .ok (.l (xs.map fun _ => .bl true)) s := by
  have hz : zipOf (.v d) (.v d) s = some ⟨xs.map fun x => .tup [x, x], []⟩ := by rcases hd with rfl | rfl <;> simp [zip_self]
  unfold likeE
  rw [e_lc (I := ⟨xs.map fun x => .tup [x, x], []⟩) (s' := s) (by simp [e_var, e_int, e_bl, e_non, e_str, e_tyn, e_con, e_bin, e_neg, e_cmp, e_chain, e_and, e_or, e_not, e_ite, e_tup, e_lst, e_idx, e_slc, e_dnewT, e_dgetT, e_fz, e_attr, e_isi, e_sset, e_new, e_call, e_bi, e_heard2, e_app, e_me, es_nil, es_cons, ts_nil, ts_cons, eo_none, eo_some, ec_none, ec_some, i_seq, i_rng, i_zip, i_enum, s_asg, s_par2, s_asgLc, s_asgLcF, s_put, s_putT, s_sat, s_ite, s_ret, s_ret0, s_raise, s_expr, ss_nil, ss_cons, Fl.then, Fl.res, Fn.fill, cmpT, hz])]
  refine lc_map rfl _ (fun x hx => ?_) (LIM_le hl)
  simp [e_var, e_int, e_bl, e_non, e_str, e_tyn, e_con, e_bin, e_neg, e_cmp, e_chain, e_and, e_or, e_not, e_ite, e_tup, e_lst, e_idx, e_slc, e_dnewT, e_dgetT, e_fz, e_attr, e_isi, e_sset, e_new, e_call, e_bi, e_heard2, e_app, e_me, es_nil, es_cons, ts_nil, ts_cons, eo_none, eo_some, ec_none, ec_some, i_seq, i_rng, i_zip, i_enum, s_asg, s_par2, s_asgLc, s_asgLcF, s_put, s_putT, s_sat, s_ite, s_ret, s_ret0, s_raise, s_expr, ss_nil, ss_cons, Fl.then, Fl.res, Fn.fill, cmpT, lcF, wipeE, h x hx]
theorem all_true (xs : List D) : bools (xs.map fun _ => D.bl true) = some (xs.map fun _ => true) := bools_map (fun _ => true) xs
theorem like (T : H__law_like tb) : ∀ (n k : Nat) (s : Sto) (d : D), dep n d = true → run tb wf (k+n+1) "_law_like" [d, d] s = .ok (.v (.bl true)) s
  | n, k, s, d, h => by
    have ht := fun b => (Kp.self s).n (d := .bl b) rfl
    have cont : ∀ xs, (d = .tup xs ∨ d = .fro xs) → ∃ m, n = m + 1 ∧ xs.length ≤ 100000 ∧ ∀ x ∈ xs, dep m x = true := fun xs hd => by
      cases n with
      | zero => rcases hd with rfl | rfl <;> simp [dep, flat] at h
      | succ m =>
        refine ⟨m, rfl, ?_⟩
        rcases hd with rfl | rfl <;> (simp only [dep, Bool.and_eq_true, decide_eq_true_eq, List.all_eq_true] at h; exact h)
    have fl : (∀ xs, d ≠ .tup xs) → (∀ xs, d ≠ .fro xs) → flat d = true := fun h1 h2 => by
      cases n with
      | zero => exact h
      | succ m => cases d <;> first | exact h | exact absurd rfl (h1 _) | exact absurd rfl (h2 _)
    rw [run, T._law_like]
    cases d with
    | tup xs =>
      obtain ⟨m, rfl, hl, hx⟩ := cont xs (.inl rfl)
      have hc := like_lc (wf := wf) (s := s) (tb := tb) (k := k + (m + 1)) (.tup xs) (.inl rfl) hl fun x hm => like T m k s x (hx x hm)
      have ha := all_true xs
      have ha2 : (xs.map fun _ => true).all id = true := by simp
      unfold likeE at hc
      generalize (xs.map fun _ => D.bl true) = bs at hc ha
      simp [e_var, e_int, e_bl, e_non, e_str, e_tyn, e_con, e_bin, e_neg, e_cmp, e_chain, e_and, e_or, e_not, e_ite, e_tup, e_lst, e_idx, e_slc, e_dnewT, e_dgetT, e_fz, e_attr, e_isi, e_sset, e_new, e_call, e_bi, e_heard2, e_app, e_me, es_nil, es_cons, ts_nil, ts_cons, eo_none, eo_some, ec_none, ec_some, i_seq, i_rng, i_zip, i_enum, s_asg, s_par2, s_asgLc, s_asgLcF, s_put, s_putT, s_sat, s_ite, s_ret, s_ret0, s_raise, s_expr, ss_nil, ss_cons, Fl.then, Fl.res, Fn.fill, cmpT, f__law_like, kinds, isSub, hc, ha, ha2, ht]
    | fro xs =>
      obtain ⟨m, rfl, hl, hx⟩ := cont xs (.inr rfl)
      have hc := like_lc (wf := wf) (s := s) (tb := tb) (k := k + (m + 1)) (.fro xs) (.inr rfl) hl fun x hm => like T m k s x (hx x hm)
      have ha := all_true xs
      have ha2 : (xs.map fun _ => true).all id = true := by simp
      unfold likeE at hc
      generalize (xs.map fun _ => D.bl true) = bs at hc ha
      simp [e_var, e_int, e_bl, e_non, e_str, e_tyn, e_con, e_bin, e_neg, e_cmp, e_chain, e_and, e_or, e_not, e_ite, e_tup, e_lst, e_idx, e_slc, e_dnewT, e_dgetT, e_fz, e_attr, e_isi, e_sset, e_new, e_call, e_bi, e_heard2, e_app, e_me, es_nil, es_cons, ts_nil, ts_cons, eo_none, eo_some, ec_none, ec_some, i_seq, i_rng, i_zip, i_enum, s_asg, s_par2, s_asgLc, s_asgLcF, s_put, s_putT, s_sat, s_ite, s_ret, s_ret0, s_raise, s_expr, ss_nil, ss_cons, Fl.then, Fl.res, Fn.fill, cmpT, f__law_like, kinds, isSub, hc, ha, ha2, ht]
    | non => simp [e_var, e_int, e_bl, e_non, e_str, e_tyn, e_con, e_bin, e_neg, e_cmp, e_chain, e_and, e_or, e_not, e_ite, e_tup, e_lst, e_idx, e_slc, e_dnewT, e_dgetT, e_fz, e_attr, e_isi, e_sset, e_new, e_call, e_bi, e_heard2, e_app, e_me, es_nil, es_cons, ts_nil, ts_cons, eo_none, eo_some, ec_none, ec_some, i_seq, i_rng, i_zip, i_enum, s_asg, s_par2, s_asgLc, s_asgLcF, s_put, s_putT, s_sat, s_ite, s_ret, s_ret0, s_raise, s_expr, ss_nil, ss_cons, Fl.then, Fl.res, Fn.fill, cmpT, f__law_like, kinds, isSub, ht]
    | bl b => cases b <;> simp [e_var, e_int, e_bl, e_non, e_str, e_tyn, e_con, e_bin, e_neg, e_cmp, e_chain, e_and, e_or, e_not, e_ite, e_tup, e_lst, e_idx, e_slc, e_dnewT, e_dgetT, e_fz, e_attr, e_isi, e_sset, e_new, e_call, e_bi, e_heard2, e_app, e_me, es_nil, es_cons, ts_nil, ts_cons, eo_none, eo_some, ec_none, ec_some, i_seq, i_rng, i_zip, i_enum, s_asg, s_par2, s_asgLc, s_asgLcF, s_put, s_putT, s_sat, s_ite, s_ret, s_ret0, s_raise, s_expr, ss_nil, ss_cons, Fl.then, Fl.res, Fn.fill, cmpT, f__law_like, kinds, isSub, ht]
    | int i => simp [e_var, e_int, e_bl, e_non, e_str, e_tyn, e_con, e_bin, e_neg, e_cmp, e_chain, e_and, e_or, e_not, e_ite, e_tup, e_lst, e_idx, e_slc, e_dnewT, e_dgetT, e_fz, e_attr, e_isi, e_sset, e_new, e_call, e_bi, e_heard2, e_app, e_me, es_nil, es_cons, ts_nil, ts_cons, eo_none, eo_some, ec_none, ec_some, i_seq, i_rng, i_zip, i_enum, s_asg, s_par2, s_asgLc, s_asgLcF, s_put, s_putT, s_sat, s_ite, s_ret, s_ret0, s_raise, s_expr, ss_nil, ss_cons, Fl.then, Fl.res, Fn.fill, cmpT, f__law_like, kinds, isSub, ht]
    | str x => simp [e_var, e_int, e_bl, e_non, e_str, e_tyn, e_con, e_bin, e_neg, e_cmp, e_chain, e_and, e_or, e_not, e_ite, e_tup, e_lst, e_idx, e_slc, e_dnewT, e_dgetT, e_fz, e_attr, e_isi, e_sset, e_new, e_call, e_bi, e_heard2, e_app, e_me, es_nil, es_cons, ts_nil, ts_cons, eo_none, eo_some, ec_none, ec_some, i_seq, i_rng, i_zip, i_enum, s_asg, s_par2, s_asgLc, s_asgLcF, s_put, s_putT, s_sat, s_ite, s_ret, s_ret0, s_raise, s_expr, ss_nil, ss_cons, Fl.then, Fl.res, Fn.fill, cmpT, f__law_like, kinds, isSub, ht]
    | _ => have := fl (by simp) (by simp); simp [flat] at this
/-! ### the well -/
def Wl (w : Int × Int × Int) (r : Sto) : Sto := .lst [.int w.1, .int w.2.1, .int w.2.2] :: r
/-- a well that may be drawn from; n: how often at most it has been -/
def Ok (n : Int) (w : Int × Int × Int) : Prop := 0 ≤ w.1 ∧ 0 ≤ w.2.1 ∧ w.2.1 < 2147483647 ∧ 0 ≤ w.2.2 ∧ w.2.2 ≤ n ∧ n ≤ 1000000000
theorem Ok.le {a b : Int} {w : Int × Int × Int} (h : Ok a w) (e : a ≤ b) (l : b ≤ 1000000000) : Ok b w := ⟨h.1, h.2.1, h.2.2.1, h.2.2.2.1, by have := h.2.2.2.2.1; omega, l⟩
theorem Wl_len (w : Int × Int × Int) (r : Sto) : (Wl w r).length = r.length + 1 := rfl
theorem Wl_app (w : Int × Int × Int) (r x : Sto) : Wl w r ++ x = Wl w (r ++ x) := rfl
theorem Wl_0 (w : Int × Int × Int) (r : Sto) : (Wl w r)[0]? = some (.lst [.int w.1, .int w.2.1, .int w.2.2]) := rfl
theorem Wl_s (w : Int × Int × Int) (r : Sto) (n : Nat) : (Wl w r)[n + 1]? = r[n]? := rfl
theorem Kp.w (w w' : Int × Int × Int) (r x : Sto) : Kp (Wl w r) (Wl w' (r ++ x)) (Wl w' r) := by
  refine ⟨?_, by simp [Wl]⟩
  simp [Wl, keptB, kept_app, O.under, D.unders, D.under]
theorem Kp.w0 (w w' : Int × Int × Int) (r : Sto) : Kp (Wl w r) (Wl w' r) (Wl w' r) := by
  have := Kp.w w w' r []
  rwa [List.append_nil] at this
@[simp] theorem idx_0 (xs : List D) (r : Sto) (i : Int) : idxT (.v (.loc 0)) (.v (.int i)) (.lst xs :: r) = (L2.atI xs i).map .v := idx_loc _ rfl i
@[simp] theorem put_0 (xs : List D) (r : Sto) (i : Int) (d : D) : putAt (.v (.loc 0)) (.int i) d (.lst xs :: r) = (L2.ixN xs.length i).map fun j => .lst (xs.set j d) :: r := by
  simp [putAt, dicPut]
@[simp] theorem ix30 : L2.ixN 3 0 = some 0 := rfl
@[simp] theorem ix31 : L2.ixN 3 1 = some 1 := rfl
@[simp] theorem ix32 : L2.ixN 3 2 = some 2 := rfl
theorem dip (T : H__law_dip tb) (k : Nat) {n : Int} {w : Int × Int × Int} {m : Int} {r : Sto} (hw : Ok n w) (hn : n + 1 ≤ 1000000000) (hm : 0 < m) (hm2 : m < 100000) :
    ∃ d w', 0 ≤ d ∧ d < m ∧ Ok (n + 1) w' ∧ run tb wf (k+1) "_law_dip" [.loc 0, .int m] (Wl w r) = .ok (.v (.int d)) (Wl w' r) := by
  obtain ⟨a, b, c⟩ := w
  obtain ⟨h1, h2, h3, h4, h5, h6⟩ := hw
  simp only at h1 h2 h3 h4 h5
  have h9 : divOk m = true := divOk_of hm (by omega)
  have d1 := Int.emod_nonneg a (show m ≠ 0 by omega)
  have d2 := Int.emod_lt_of_pos a hm
  have ht := fun (w' : Int × Int × Int) d => (Kp.w0 (a, b, c) w' r).n (d := .int d) rfl
  simp only [Wl] at ht
  by_cases ha : 0 < a
  · refine ⟨a % m, (a / m, b, c), d1, d2, ⟨Int.ediv_nonneg h1 (by omega), h2, h3, h4, by simp only; omega, hn⟩, ?_⟩
    rw [run, T._law_dip]
    have ht' := ht (a / m, b, c)
    simp only at ht'
    simp [e_var, e_int, e_bl, e_non, e_str, e_tyn, e_con, e_bin, e_neg, e_cmp, e_chain, e_and, e_or, e_not, e_ite, e_tup, e_lst, e_idx, e_slc, e_dnewT, e_dgetT, e_fz, e_attr, e_isi, e_sset, e_new, e_call, e_bi, e_heard2, e_app, e_me, es_nil, es_cons, ts_nil, ts_cons, eo_none, eo_some, ec_none, ec_some, i_seq, i_rng, i_zip, i_enum, s_asg, s_par2, s_asgLc, s_asgLcF, s_put, s_putT, s_sat, s_ite, s_ret, s_ret0, s_raise, s_expr, ss_nil, ss_cons, Fl.then, Fl.res, Fn.fill, cmpT, f__law_dip, Wl, ha, hm, h9, ht']
  · have e0 : a = 0 := by omega
    subst e0
    have g1 : mulOk b 69621 = true := mulOk_r (by decide)
    have g2 : mulOk 88001 (c + 1) = true := mulOk_l (by decide)
    generalize hraw : (b * 69621 + 88001 * (c + 1) + 7) % 2147483647 = raw
    have r1 : 0 ≤ raw := by rw [← hraw]; exact Int.emod_nonneg _ (by decide)
    have r2 : raw < 2147483647 := by rw [← hraw]; exact Int.emod_lt_of_pos _ (by decide)
    have g5 : divOk 16 = true := by decide
    refine ⟨(raw / 16) % m, (0, raw, c + 1), Int.emod_nonneg _ (by omega), Int.emod_lt_of_pos _ hm, ⟨by simp, by simp only; omega, by simp only; omega, by simp only; omega, by simp only; omega, hn⟩, ?_⟩
    rw [run, T._law_dip]
    have ht' := ht (0, raw, c + 1)
    simp only at ht'
    simp [e_var, e_int, e_bl, e_non, e_str, e_tyn, e_con, e_bin, e_neg, e_cmp, e_chain, e_and, e_or, e_not, e_ite, e_tup, e_lst, e_idx, e_slc, e_dnewT, e_dgetT, e_fz, e_attr, e_isi, e_sset, e_new, e_call, e_bi, e_heard2, e_app, e_me, es_nil, es_cons, ts_nil, ts_cons, eo_none, eo_some, ec_none, ec_some, i_seq, i_rng, i_zip, i_enum, s_asg, s_par2, s_asgLc, s_asgLcF, s_put, s_putT, s_sat, s_ite, s_ret, s_ret0, s_raise, s_expr, ss_nil, ss_cons, Fl.then, Fl.res, Fn.fill, cmpT, f__law_dip, Wl, hm, g1, g2, g5, hraw, ht']
/-- one of some things -/
theorem one (T : H__law_one tb) (k : Nat) {n : Int} {w : Int × Int × Int} {xs : List D} {X : D} {r : Sto} (hX : X = .fro xs ∨ X = .tup xs) (hw : Ok n w) (hn : n + 1 ≤ 1000000000) (h0 : xs ≠ []) (hl : xs.length < 100000) (hu : D.unders 0 xs = true) :
    ∃ x w', x ∈ xs ∧ Ok (n + 1) w' ∧ run tb wf (k+2) "_law_one" [.loc 0, X] (Wl w r) = .ok (.v x) (Wl w' r) := by
  have hpos : 0 < xs.length := List.length_pos_iff.mpr h0
  obtain ⟨d, w', d1, d2, o, e⟩ := dip (wf := wf) T.toH__law_dip k (m := (xs.length : Int)) (r := r) hw hn (by omega) (by omega)
  obtain ⟨m, rfl⟩ := Int.eq_ofNat_of_zero_le d1
  have hm : m < xs.length := by omega
  have ea : L2.atI xs (m : Int) = some xs[m] := L2.atI_nat (List.getElem?_eq_getElem hm)
  have hx := unders_mem hu xs[m] (List.getElem_mem hm)
  have ht := (Kp.w0 w w' r).n hx
  refine ⟨xs[m], w', List.getElem_mem hm, o, ?_⟩
  rw [run, T._law_one]
  generalize xs[m] = x at ea ht
  generalize (m : Int) = mm at ea e
  rcases hX with rfl | rfl <;> simp [e_var, e_int, e_bl, e_non, e_str, e_tyn, e_con, e_bin, e_neg, e_cmp, e_chain, e_and, e_or, e_not, e_ite, e_tup, e_lst, e_idx, e_slc, e_dnewT, e_dgetT, e_fz, e_attr, e_isi, e_sset, e_new, e_call, e_bi, e_heard2, e_app, e_me, es_nil, es_cons, ts_nil, ts_cons, eo_none, eo_some, ec_none, ec_some, i_seq, i_rng, i_zip, i_enum, s_asg, s_par2, s_asgLc, s_asgLcF, s_put, s_putT, s_sat, s_ite, s_ret, s_ret0, s_raise, s_expr, ss_nil, ss_cons, Fl.then, Fl.res, Fn.fill, cmpT, f__law_one, e, ea, ht]
end
end Fam
end
section
set_option Elab.async false
set_option linter.all false
set_option maxRecDepth 100000
set_option maxHeartbeats 1000000
set_option linter.unusedSimpArgs false
/-! Md: the well made; kinds and teams drawn. -/
namespace Fam
open Fy
def nth : Ss → Nat → S
  | .cons s _, 0 => s
  | .cons _ r, n + 1 => nth r n
  | _, _ => .pass
def forB : S → Ss
  | .for_ _ _ b => b
  | .while_ _ b => b
  | _ => .nil
theorem then_nx {f : Env → Sto → Fl} {ρ : Env} {s : Sto} {m : Fl} (h : m = .nx ρ s) : m.then f = f ρ s := by subst h; rfl
section
variable {tb : Tab} {wf : Nat}
theorem well_turn (k : Nat) (x0 : D) (st g z : Int) (o3 o4 : Option D) (s : Sto) (hg : 0 ≤ g) :
    ∃ st' g' q3 q4, 0 ≤ st' ∧ st' < 2147483647 ∧ 0 ≤ g' ∧ forF (.nm 3) (evSs (run tb wf k) wf (forB (nth f__law_well.body 1))) (.int z) [some x0, some (.int st), some (.int g), o3, o4] s = .nx [some x0, some (.int st'), some (.int g'), q3, q4] s := by
  have hp : binT .pow (.v (.int 10)) (.v (.int 60)) s = some (.v (.int (10 ^ 60))) := rfl
  have hP : (0 : Int) < 10 ^ 60 := by decide
  generalize (10 : Int) ^ 60 = P at hp hP
  have m1 : ∀ a : Int, mulOk 2 a = true := fun a => mulOk_l (by decide)
  have m2 : mulOk g 3 = true := mulOk_r (by decide)
  have m3 : mulOk st 48271 = true := mulOk_r (by decide)
  have key : ∀ one : Int, 0 ≤ one → ∃ st' g' : Int, 0 ≤ st' ∧ st' < 2147483647 ∧ 0 ≤ g' ∧ st' = (st * 48271 + one % 2147483563 + 11) % 2147483647 ∧ g' = g * 3 + one := fun one h1 =>
    ⟨_, _, Int.emod_nonneg _ (by decide), Int.emod_lt_of_pos _ (by decide), by omega, rfl, rfl⟩
  obtain ⟨st', g', a1, a2, a3, e1, e2⟩ := key ((2 * (if z < 0 then -z else z) + (if z < 0 then 1 else 0)) % P) (Int.emod_nonneg _ (by omega))
  refine ⟨st', g', some (.int z), some (.int ((2 * (if z < 0 then -z else z) + (if z < 0 then 1 else 0)) % P)), a1, a2, a3, ?_⟩
  rw [e1, e2]
  by_cases hz : z < 0
  · simp [e_var, e_int, e_bl, e_non, e_str, e_tyn, e_con, e_bin, e_neg, e_cmp, e_chain, e_and, e_or, e_not, e_ite, e_tup, e_lst, e_idx, e_slc, e_dnewT, e_dgetT, e_fz, e_attr, e_isi, e_sset, e_new, e_call, e_bi, e_heard2, e_app, e_me, es_nil, es_cons, ts_nil, ts_cons, eo_none, eo_some, ec_none, ec_some, i_seq, i_rng, i_zip, i_enum, s_asg, s_par2, s_asgLc, s_asgLcF, s_put, s_putT, s_sat, s_ite, s_ret, s_ret0, s_raise, s_expr, ss_nil, ss_cons, Fl.then, Fl.res, Fn.fill, cmpT, forF_ap, f__law_well, nth, forB, hp, hP, m1, m2, m3, hz]
  · simp [e_var, e_int, e_bl, e_non, e_str, e_tyn, e_con, e_bin, e_neg, e_cmp, e_chain, e_and, e_or, e_not, e_ite, e_tup, e_lst, e_idx, e_slc, e_dnewT, e_dgetT, e_fz, e_attr, e_isi, e_sset, e_new, e_call, e_bi, e_heard2, e_app, e_me, es_nil, es_cons, ts_nil, ts_cons, eo_none, eo_some, ec_none, ec_some, i_seq, i_rng, i_zip, i_enum, s_asg, s_par2, s_asgLc, s_asgLcF, s_put, s_putT, s_sat, s_ite, s_ret, s_ret0, s_raise, s_expr, ss_nil, ss_cons, Fl.then, Fl.res, Fn.fill, cmpT, forF_ap, f__law_well, nth, forB, hp, hP, m1, m2, m3, hz]
theorem well_loop (k : Nat) (x0 : D) (s : Sto) : ∀ (zs : List D) (st g : Int) (o3 o4 : Option D), (∀ d ∈ zs, ∃ i, d = .int i) → 0 ≤ st → st < 2147483647 → 0 ≤ g →
    ∃ st' g' q3 q4, 0 ≤ st' ∧ st' < 2147483647 ∧ 0 ≤ g' ∧ forLoop (forF (.nm 3) (evSs (run tb wf k) wf (forB (nth f__law_well.body 1)))) [] zs [some x0, some (.int st), some (.int g), o3, o4] s = .nx [some x0, some (.int st'), some (.int g'), q3, q4] s
  | [], st, g, o3, o4, _, h1, h2, h3 => ⟨st, g, o3, o4, h1, h2, h3, rfl⟩
  | z :: zs, st, g, o3, o4, hz, h1, h2, h3 => by
    obtain ⟨i, rfl⟩ := hz z (by simp)
    obtain ⟨st1, g1, q3, q4, a1, a2, a3, e⟩ := well_turn (tb := tb) (wf := wf) k x0 st g i o3 o4 s h3
    obtain ⟨st2, g2, r3, r4, b1, b2, b3, e2⟩ := well_loop k x0 s zs st1 g1 q3 q4 (fun d hd => hz d (by simp [hd])) a1 a2 a3
    refine ⟨st2, g2, r3, r4, b1, b2, b3, ?_⟩
    simp only [forLoop, stands, List.all_nil, if_true, e, Fl.turn]
    exact e2
theorem cut_ints (ns : List Int) (lo hi : Option Int) : ∀ d ∈ cutD (ns.map .int) lo hi, ∃ i, d = .int i := fun d hd => by
  obtain ⟨i, _, rfl⟩ := List.mem_map.mp (List.mem_of_mem_drop (List.mem_of_mem_take hd))
  exact ⟨i, rfl⟩
theorem well (T : H__law_well tb) (k : Nat) (ns : List Int) : ∃ w, Ok 0 w ∧ run tb wf (k+1) "_law_well" [.fro (ns.map .int)] [] = .ok (.l [.int w.1, .int w.2.1, .int w.2.2]) [] := by
  have hi : evIt (run tb wf k) (.seq (.slc (.var 0) .none (.some (.int 60)))) [some (.fro (ns.map .int)), some (.int 50331), some (.int 0), none, none] [] = .ok ⟨cutD (ns.map .int) none (some 60), []⟩ [] := by simp [e_var, e_int, e_bl, e_non, e_str, e_tyn, e_con, e_bin, e_neg, e_cmp, e_chain, e_and, e_or, e_not, e_ite, e_tup, e_lst, e_idx, e_slc, e_dnewT, e_dgetT, e_fz, e_attr, e_isi, e_sset, e_new, e_call, e_bi, e_heard2, e_app, e_me, es_nil, es_cons, ts_nil, ts_cons, eo_none, eo_some, ec_none, ec_some, i_seq, i_rng, i_zip, i_enum, s_asg, s_par2, s_asgLc, s_asgLcF, s_put, s_putT, s_sat, s_ite, s_ret, s_ret0, s_raise, s_expr, ss_nil, ss_cons, Fl.then, Fl.res, Fn.fill, cmpT]
  obtain ⟨st, g, q3, q4, a1, a2, a3, e⟩ := well_loop (tb := tb) (wf := wf) k (.fro (ns.map .int)) [] (cutD (ns.map .int) none (some 60)) 50331 0 none none (cut_ints ns _ _) (by decide) (by decide) (by decide)
  refine ⟨(g, st, 0), ⟨a3, a1, a2, by simp, by simp, by decide⟩, ?_⟩
  have hf := s_for (cf := run tb wf k) (wf := wf) (t := .nm 3) (b := forB (nth f__law_well.body 1)) hi
  rw [e] at hf
  have ht := (Kp.self []).ln (xs := [.int g, .int st, .int 0]) rfl
  have h3 : 3 ≤ LIM := by decide
  have h2 : 2 ≤ LIM := by decide
  rw [run, T._law_well]
  simp only [f__law_well, nth, forB] at hf ⊢
  simp [e_var, e_int, e_bl, e_non, e_str, e_tyn, e_con, e_bin, e_neg, e_cmp, e_chain, e_and, e_or, e_not, e_ite, e_tup, e_lst, e_idx, e_slc, e_dnewT, e_dgetT, e_fz, e_attr, e_isi, e_sset, e_new, e_call, e_bi, e_heard2, e_app, e_me, es_nil, es_cons, ts_nil, ts_cons, eo_none, eo_some, ec_none, ec_some, i_seq, i_rng, i_zip, i_enum, s_asg, s_par2, s_asgLc, s_asgLcF, s_put, s_putT, s_sat, s_ite, s_ret, s_ret0, s_raise, s_expr, ss_nil, ss_cons, Fl.then, Fl.res, Fn.fill, cmpT, h2, h3, hf, ht]
end
end Fam
end
section
set_option Elab.async false
set_option linter.all false
set_option maxRecDepth 100000
set_option maxHeartbeats 1000000
set_option linter.unusedSimpArgs false
/-! Me: kinds and teams drawn. -/
namespace Fam
open Fy
structure Kd where
  many : Int
  begin : Int
  steps : List (List Int)
def stD (r : List Int) : D := .tup (r.map .int)
def kD (k : Kd) : D := .tup [.int k.many, .int k.begin, .tup (k.steps.map stD)]
def StOk (st many : Int) (r : List Int) : Prop := ∃ s l t m : Int, r = [s, l, t, m] ∧ (0 ≤ s ∧ s < st) ∧ (0 ≤ l ∧ l < many) ∧ (0 ≤ t ∧ t < st) ∧ (0 ≤ m ∧ m < many)
structure KOk (st : Int) (k : Kd) : Prop where
  m1 : 1 ≤ k.many
  m3 : k.many ≤ 3
  b0 : 0 ≤ k.begin
  b1 : k.begin < k.many
  len : k.steps.length ≤ 63
  ok : ∀ r ∈ k.steps, StOk st k.many r
  asc : k.steps.Pairwise fun a b => ordL 0 a b = true
theorem st_pl (r : List Int) : pl (stD r) = true := by simp only [stD, pl]; exact pls_ints r
theorem st_pls (rs : List (List Int)) : pls (rs.map stD) = true := pls_of fun x hx => by
  obtain ⟨r, _, rfl⟩ := List.mem_map.mp hx
  exact st_pl r
theorem kD_pl (k : Kd) : pl (kD k) = true := by simp [kD, pl, pls, st_pls]
theorem kDs_pls (ks : List Kd) : pls (ks.map kD) = true := pls_of fun x hx => by
  obtain ⟨r, _, rfl⟩ := List.mem_map.mp hx
  exact kD_pl r
/-! ### rows in order -/
theorem ordL_trans1 : ∀ a b c : List Int, ordL 1 a b = true → ordL 1 b c = true → ordL 1 a c = true
  | [], [], [], _, _ => rfl
  | [], [], _ :: _, _, h => h
  | [], _ :: _, [], _, h => by simp [ordL] at h
  | [], _ :: _, _ :: _, _, _ => rfl
  | _ :: _, [], _, h, _ => by simp [ordL] at h
  | _ :: _, _ :: _, [], _, h => by simp [ordL] at h
  | x :: xs, y :: ys, z :: zs, h1, h2 => by
    simp only [ordL] at h1 h2 ⊢
    by_cases e1 : x = y
    · subst e1
      by_cases e2 : x = z
      · subst e2
        simp only [if_true] at h1 h2 ⊢
        exact ordL_trans1 xs ys zs h1 h2
      · simp only [if_true, e2, if_false] at h1 h2 ⊢
        exact h2
    · simp only [e1, if_false] at h1
      by_cases e2 : y = z
      · subst e2
        simp only [e1, if_false]
        exact h1
      · simp only [e2, if_false, ordI1, decide_eq_true_eq] at h1 h2
        have e3 : ¬ x = z := by omega
        simp only [e3, if_false, ordI1, decide_eq_true_eq]
        omega
theorem ordL_total1 : ∀ a b : List Int, (ordL 1 a b || ordL 1 b a) = true
  | [], [] => rfl
  | [], _ :: _ => by simp [ordL]
  | _ :: _, [] => by simp [ordL]
  | x :: xs, y :: ys => by
    simp only [ordL]
    by_cases e : x = y
    · subst e
      simp only [if_true]
      exact ordL_total1 xs ys
    · have e' : ¬ y = x := fun z => e z.symm
      simp only [e, e', if_false, ordI1, Bool.or_eq_true, decide_eq_true_eq]
      omega
theorem ordL_strict : ∀ a b : List Int, a.length = b.length → ordL 1 a b = true → a ≠ b → ordL 0 a b = true
  | [], [], _, _, n => absurd rfl n
  | [], _ :: _, l, _, _ => by simp at l
  | _ :: _, [], l, _, _ => by simp at l
  | x :: xs, y :: ys, l, h, n => by
    simp only [ordL] at h ⊢
    by_cases e : x = y
    · subst e
      simp only [if_true] at h ⊢
      exact ordL_strict xs ys (by simpa using l) h fun z => n (by rw [z])
    · simp only [e, if_false, ordI1, ordI0, decide_eq_true_eq] at h ⊢
      omega
theorem ordL_not : ∀ a b : List Int, ordL 0 a b = true → ordL 1 b a = false
  | [], [], h => by simp [ordL] at h
  | [], _ :: _, _ => by simp [ordL]
  | _ :: _, [], h => by simp [ordL] at h
  | x :: xs, y :: ys, h => by
    simp only [ordL] at h ⊢
    by_cases e : x = y
    · subst e
      simp only [if_true] at h ⊢
      exact ordL_not xs ys h
    · have e' : ¬ y = x := fun z => e z.symm
      simp only [e, e', if_false, ordI1, ordI0, decide_eq_true_eq, decide_eq_false_iff_not] at h ⊢
      omega
theorem dd_mem {α : Type} [DecidableEq α] {x : α} : ∀ {l : List α}, x ∈ dd l → x ∈ l
  | [], h => h
  | y :: l, h => by
    unfold dd at h
    split at h
    · exact List.mem_cons_of_mem _ (dd_mem h)
    · rcases List.mem_cons.mp h with rfl | h
      · exact List.mem_cons_self
      · exact List.mem_cons_of_mem _ (dd_mem h)
theorem dd_len {α : Type} [DecidableEq α] : ∀ {l : List α}, (dd l).length ≤ l.length
  | [] => Nat.le_refl _
  | y :: l => by
    unfold dd
    split
    · exact Nat.le_succ_of_le dd_len
    · simpa using dd_len
theorem dd_nodup {α : Type} [DecidableEq α] : ∀ {l : List α}, (dd l).Nodup
  | [] => List.nodup_nil
  | y :: l => by
    unfold dd
    split
    · exact dd_nodup
    · rename_i h
      exact List.nodup_cons.mpr ⟨fun m => h (dd_mem m), dd_nodup⟩
theorem srt_mem {rows : List (List Int)} {r : List Int} (h : r ∈ srt rows) : r ∈ rows := dd_mem (List.mem_mergeSort.mp h)
theorem srt_len (rows : List (List Int)) : (srt rows).length ≤ rows.length := by
  unfold srt
  rw [List.length_mergeSort]
  exact dd_len
theorem srt_asc {rows : List (List Int)} {n : Nat} (h : ∀ r ∈ rows, r.length = n) : (srt rows).Pairwise fun a b => ordL 0 a b = true := by
  have h1 : (srt rows).Pairwise fun a b => ordL 1 a b = true := List.pairwise_mergeSort ordL_trans1 ordL_total1 _
  have h2 : (srt rows).Nodup := (List.mergeSort_perm _ _).nodup_iff.mpr dd_nodup
  refine (h1.and h2).imp_of_mem fun {a b} ha hb z => ordL_strict a b ?_ z.1 z.2
  rw [h a (srt_mem ha), h b (srt_mem hb)]
theorem intsD_map (r : List Int) : intsD (r.map .int) = some r := by
  induction r with
  | nil => rfl
  | cons x r ih => simp [intsD, ih]
theorem rowsI_map (rows : List (List Int)) : rowsI (rows.map stD) = some rows := by
  induction rows with
  | nil => rfl
  | cons r rows ih => simp [rowsI, stD, intsD_map, ih]
theorem sset_ok {st many : Int} {rows : List (List Int)} (h1 : st ≤ 1000) (h2 : many ≤ 1000) (hne : rows ≠ []) (hl : rows.length < 64) (h : ∀ r ∈ rows, StOk st many r) : ssetD (rows.map stD) = some ((srt rows).map stD) := by
  have hhead : (rows.headD [0]).length = 4 := by
    cases rows with
    | nil => exact absurd rfl hne
    | cons r rows =>
      obtain ⟨s, l, t, m, rfl, _⟩ := h r (by simp)
      rfl
  have hall : rows.all (rowOk 4) = true := by
    rw [List.all_eq_true]
    intro r hr
    obtain ⟨s, l, t, m, rfl, _, _, _, _⟩ := h r hr
    simp [rowOk]
    omega
  unfold ssetD
  rw [rowsI_map, Option.bind_some, hhead, if_pos ⟨hl, hall, by decide⟩]
  rfl
theorem StOk.len {st many : Int} {r : List Int} (h : StOk st many r) : r.length = 4 := by
  obtain ⟨s, l, t, m, rfl, _⟩ := h
  rfl
section
variable {tb : Tab} {wf : Nat}
def kindB : Ss := forB (nth f__law_kind.body 1)
abbrev kE (st sz : Int) (n : Nat) (o4 o5 o6 : Option D) : Env := [some (.loc 0), some (.int st), some (.int sz), some (.loc n), o4, o5, o6]
theorem kind_turn (T : H__law_kind tb) (k : Nat) {n : Int} {w : Int × Int × Int} {r : Sto} {st sz : Int} (hw : Ok n w) (hn : n + 4 ≤ 1000000000) (hs : 1 ≤ st) (hs2 : st ≤ 1000) (hz : 1 ≤ sz) (hz2 : sz ≤ 1000) (rows : List (List Int)) (hl : rows.length < 1000) (z : Int) (o4 o5 o6 : Option D) :
    ∃ row w' q4 q5 q6, StOk st sz row ∧ Ok (n + 4) w' ∧ forF (.nm 4) (evSs (run tb wf (k+2)) wf kindB) (.int z) (kE st sz (r.length + 1) o4 o5 o6) (Wl w (r ++ [.lst (rows.map stD)])) = .nx (kE st sz (r.length + 1) q4 q5 q6) (Wl w' (r ++ [.lst ((rows ++ [row]).map stD)])) := by
  generalize hR : r ++ [O.lst (rows.map stD)] = R
  have D1 := T.toH__law_dip
  obtain ⟨l, w1, l0, l1, o1, e1⟩ := dip (wf := wf) D1 (k+1) (m := sz) (r := R) hw (by omega) (by omega) (by omega)
  have g1 := Int.emod_nonneg (l + 1) (show sz ≠ 0 by omega)
  have g2 := Int.emod_lt_of_pos (l + 1) (show 0 < sz by omega)
  generalize hq : (l + 1) % sz = q at g1 g2
  obtain ⟨x, w2, hx, o2, e2⟩ := one (wf := wf) T.toH__law_one k (r := R) (xs := [.int q, .int q, .int l, .int 0]) (.inl rfl) o1 (by omega) (by simp) (by simp) rfl
  obtain ⟨m, rfl, m0, m1⟩ : ∃ m : Int, x = .int m ∧ 0 ≤ m ∧ m < sz := by
    simp only [List.mem_cons, List.not_mem_nil, or_false] at hx
    rcases hx with rfl | rfl | rfl | rfl
    · exact ⟨q, rfl, g1, g2⟩
    · exact ⟨q, rfl, g1, g2⟩
    · exact ⟨l, rfl, l0, l1⟩
    · exact ⟨0, rfl, by omega, by omega⟩
  obtain ⟨s, w3, s0, s1, o3, e3⟩ := dip (wf := wf) D1 (k+1) (m := st) (r := R) o2 (by omega) (by omega) (by omega)
  obtain ⟨t, w4, t0, t1, o4', e4⟩ := dip (wf := wf) D1 (k+1) (m := st) (r := R) o3 (by omega) (by omega) (by omega)
  have at_ : ∀ w, (Wl w R)[r.length + 1]? = some (.lst (rows.map stD)) := fun w => by rw [Wl_s, ← hR]; simp
  have hL : ∀ w, isLst (.v (.loc (r.length + 1))) (Wl w R) = some (.v (.loc (r.length + 1))) := fun w => isLst_loc (at_ w)
  have hA : ∀ w, appT (.v (.loc (r.length + 1))) [.tup [.int s, .int l, .int t, .int m]] (Wl w R) = .ok (.v .non) (Wl w (r ++ [.lst ((rows ++ [[s, l, t, m]]).map stD)])) := fun w => by
    rw [appT_loc (at_ w) (by rw [List.length_map]; exact LIM_lt (by omega)), ← hR]
    simp [Wl, stD]
  have h4 : 4 ≤ LIM := by decide
  have hz' : 0 < sz := by omega
  have e2' : run tb wf (k + 2) (PySem.Str.ofString "_law_one") [D.loc 0, D.fro [D.int q, D.int q, D.int l, D.int 0]] (Wl w1 R) = .ok (Fy.T.v (D.int m)) (Wl w2 R) := e2
  refine ⟨[s, l, t, m], w4, some (.int z), some (.int l), some (.int m), ⟨s, l, t, m, rfl, ⟨s0, s1⟩, ⟨l0, l1⟩, ⟨t0, t1⟩, ⟨m0, m1⟩⟩, o4'.le (by omega) (by omega), ?_⟩
  simp [e_var, e_int, e_bl, e_non, e_str, e_tyn, e_con, e_bin, e_neg, e_cmp, e_chain, e_and, e_or, e_not, e_ite, e_tup, e_lst, e_idx, e_slc, e_dnewT, e_dgetT, e_fz, e_attr, e_isi, e_sset, e_new, e_call, e_bi, e_heard2, e_app, e_me, es_nil, es_cons, ts_nil, ts_cons, eo_none, eo_some, ec_none, ec_some, i_seq, i_rng, i_zip, i_enum, s_asg, s_par2, s_asgLc, s_asgLcF, s_put, s_putT, s_sat, s_ite, s_ret, s_ret0, s_raise, s_expr, ss_nil, ss_cons, Fl.then, Fl.res, Fn.fill, cmpT, forF_ap, kindB, f__law_kind, nth, forB, kE, e1, hz', hq, h4, e2, e3, e4, hL, hA]
theorem kind_loop (T : H__law_kind tb) (k : Nat) {r : Sto} {st sz : Int} (hs : 1 ≤ st) (hs2 : st ≤ 1000) (hz : 1 ≤ sz) (hz2 : sz ≤ 1000) : ∀ (zs : List D) (n : Int) (w : Int × Int × Int) (rows : List (List Int)) (o4 o5 o6 : Option D), (∀ d ∈ zs, ∃ i, d = .int i) → Ok n w → n + 4 * zs.length ≤ 1000000000 → rows.length + zs.length < 1000 → (∀ row ∈ rows, StOk st sz row) →
    ∃ (rows' : List (List Int)) (w' : Int × Int × Int) (q4 q5 q6 : Option D), rows'.length = rows.length + zs.length ∧ (∀ row ∈ rows', StOk st sz row) ∧ Ok (n + 4 * zs.length) w' ∧ forLoop (forF (.nm 4) (evSs (run tb wf (k+2)) wf kindB)) [] zs (kE st sz (r.length + 1) o4 o5 o6) (Wl w (r ++ [.lst (rows.map stD)])) = .nx (kE st sz (r.length + 1) q4 q5 q6) (Wl w' (r ++ [.lst (rows'.map stD)]))
  | [], n, w, rows, o4, o5, o6, _, hw, hn, hl, hr => ⟨rows, w, o4, o5, o6, by simp, hr, by simpa using hw, by simp [forLoop, stands]⟩
  | z :: zs, n, w, rows, o4, o5, o6, hzs, hw, hn, hl, hr => by
    obtain ⟨i, rfl⟩ := hzs z (by simp)
    simp only [List.length_cons] at hn hl ⊢
    obtain ⟨row, w1, q4, q5, q6, a1, a2, e⟩ := kind_turn (wf := wf) T k (r := r) hw (by omega) hs hs2 hz hz2 rows (by omega) i o4 o5 o6
    obtain ⟨rows', w2, p4, p5, p6, b1, b2, b3, e2⟩ := kind_loop T k (r := r) hs hs2 hz hz2 zs (n + 4) w1 (rows ++ [row]) q4 q5 q6 (fun d hd => hzs d (by simp [hd])) a2 (by omega) (by simp; omega) (fun x hx => (List.mem_append.mp hx).elim (hr x) fun h => by rw [List.mem_singleton.mp h]; exact a1)
    refine ⟨rows', w2, p4, p5, p6, by simp at b1; omega, b2, b3.le (by omega) (by omega), ?_⟩
    simp only [forLoop, stands, List.all_nil, if_true, e, Fl.turn]
    exact e2
end
end Fam
end
section
set_option Elab.async false
set_option linter.all false
set_option maxRecDepth 100000
set_option maxHeartbeats 1000000
set_option linter.unusedSimpArgs false
/-! Mf: a kind drawn; a team drawn. -/
namespace Fam
open Fy
theorem rangeD_ok {j : Int} (h0 : 0 ≤ j) (h : j < 1000000) : rangeD 0 j = some ⟨(List.range j.toNat).map fun i => D.int (0 + (i : Nat)), []⟩ := by
  unfold rangeD
  rw [if_pos (by omega)]
  simp
theorem range_ints (n : Nat) : ∀ d ∈ (List.range n).map fun i => D.int (0 + (i : Nat)), ∃ i, d = .int i := fun d hd => by
  obtain ⟨i, _, rfl⟩ := List.mem_map.mp hd
  exact ⟨_, rfl⟩
section
variable {tb : Tab} {wf : Nat}
theorem law_kind (T : H__law_kind tb) (k : Nat) {n : Int} {w : Int × Int × Int} {r : Sto} {st sz : Int} (hw : Ok n w) (hn : n + 40 ≤ 1000000000) (hs : 1 ≤ st) (hs2 : st ≤ 1000) (hz : 1 ≤ sz) (hz2 : sz ≤ 3) :
    ∃ (kd : Kd) (w' : Int × Int × Int), KOk st kd ∧ kd.many = sz ∧ Ok (n + 40) w' ∧ run tb wf (k+3) "_law_kind" [.loc 0, .int st, .int sz] (Wl w r) = .ok (.v (kD kd)) (Wl w' r) := by
  have D1 := T.toH__law_dip
  generalize hR : r ++ [O.lst []] = R
  obtain ⟨d, w1, d0, d1, o1, e1⟩ := dip (wf := wf) D1 (k+1) (m := 5) (r := R) hw (by omega) (by omega) (by omega)
  have hrg := rangeD_ok (j := 2 + d) (by omega) (by omega)
  have hlen : ((List.range (2 + d).toNat).map fun i => D.int (0 + (i : Nat))).length = (2 + d).toNat := by simp
  obtain ⟨rows, w2, q4, q5, q6, a1, a2, o2, e2⟩ := kind_loop (wf := wf) T k (r := r) hs hs2 hz (by omega) _ (n + 1) w1 [] none none none (range_ints (2 + d).toNat) o1 (by rw [hlen]; omega) (by rw [hlen]; simp; omega) (by simp)
  rw [hlen] at a1 o2
  simp only [List.length_nil, Nat.zero_add] at a1
  have hne : rows ≠ [] := fun e => by subst e; simp at a1; omega
  have hss := sset_ok (st := st) (many := sz) hs2 (by omega) hne (by omega) a2
  generalize hR2 : r ++ [O.lst (rows.map stD)] = R2 at e2
  have at2 : ∀ w, (Wl w R2)[r.length + 1]? = some (.lst (rows.map stD)) := fun w => by rw [Wl_s, ← hR2]; simp
  have hlst : ∀ w, lstOf (.v (.loc (r.length + 1))) (Wl w R2) = some (rows.map stD) := fun w => lst_loc _ (at2 w)
  obtain ⟨c, w3, c0, c1, o3, e3⟩ := dip (wf := wf) D1 (k+1) (m := 4) (r := R2) o2 (by omega) (by omega) (by omega)
  obtain ⟨b, w4, b0, b1, o4, e4⟩ := dip (wf := wf) D1 (k+1) (m := sz) (r := R2) o3 (by omega) (by omega) (by omega)
  have asc := srt_asc (rows := rows) (n := 4) fun x hx => (a2 x hx).len
  have slen := srt_len rows
  have mk : ∀ beg : Int, 0 ≤ beg → beg < sz → KOk st ⟨sz, beg, srt rows⟩ := fun beg h0 h1 => ⟨hz, hz2, h0, h1, by simp only; omega, fun x hx => a2 x (srt_mem hx), asc⟩
  have hkp : ∀ w', Kp (Wl w r) (Wl w' R2) (Wl w' r) := fun w' => by rw [← hR2]; exact Kp.w w w' r _
  have h3 : 3 ≤ LIM := by decide
  -- the loop
  have hit : evIt (run tb wf (k+2)) (.rng (.cons (.bin .add (.int 2) (.call "_law_dip" (.cons (.var 0) (.cons (.int 5) .nil)))) .nil)) (kE st sz (r.length + 1) none none none) (Wl w R) = .ok ⟨(List.range (2 + d).toNat).map fun i => D.int (0 + (i : Nat)), []⟩ (Wl w1 R) := by
    simp [e_var, e_int, e_bl, e_non, e_str, e_tyn, e_con, e_bin, e_neg, e_cmp, e_chain, e_and, e_or, e_not, e_ite, e_tup, e_lst, e_idx, e_slc, e_dnewT, e_dgetT, e_fz, e_attr, e_isi, e_sset, e_new, e_call, e_bi, e_heard2, e_app, e_me, es_nil, es_cons, ts_nil, ts_cons, eo_none, eo_some, ec_none, ec_some, i_seq, i_rng, i_zip, i_enum, s_asg, s_par2, s_asgLc, s_asgLcF, s_put, s_putT, s_sat, s_ite, s_ret, s_ret0, s_raise, s_expr, ss_nil, ss_cons, Fl.then, Fl.res, Fn.fill, cmpT, kE, e1, rangeOf, hrg]
  have hf := s_for (cf := run tb wf (k+2)) (wf := wf) (t := .nm 4) (b := kindB) hit
  rw [← hR] at hf
  have e2' := e2
  simp only [List.map_nil] at e2'
  rw [e2'] at hf
  rw [run, T._law_kind]
  simp only [kindB, f__law_kind, nth, forB, kE] at hf ⊢
  by_cases hc : c = 0
  · subst hc
    have hk := (hkp w4).n (pl_under _ (kD_pl ⟨sz, b, srt rows⟩))
    simp only [kD] at hk
    refine ⟨⟨sz, b, srt rows⟩, w4, mk b b0 b1, rfl, o4.le (by omega) (by omega), ?_⟩
    simp only [kD]
    generalize (srt rows).map stD = SS at hk hss ⊢
    simp [e_var, e_int, e_bl, e_non, e_str, e_tyn, e_con, e_bin, e_neg, e_cmp, e_chain, e_and, e_or, e_not, e_ite, e_tup, e_lst, e_idx, e_slc, e_dnewT, e_dgetT, e_fz, e_attr, e_isi, e_sset, e_new, e_call, e_bi, e_heard2, e_app, e_me, es_nil, es_cons, ts_nil, ts_cons, eo_none, eo_some, ec_none, ec_some, i_seq, i_rng, i_zip, i_enum, s_asg, s_par2, s_asgLc, s_asgLcF, s_put, s_putT, s_sat, s_ite, s_ret, s_ret0, s_raise, s_expr, ss_nil, ss_cons, Fl.then, Fl.res, Fn.fill, cmpT, Wl_len, Wl_app, hf, e3, e4, hlst, hss, h3]
    first | exact hk | skip
  · have hk := (hkp w3).n (pl_under _ (kD_pl ⟨sz, 0, srt rows⟩))
    simp only [kD] at hk
    refine ⟨⟨sz, 0, srt rows⟩, w3, mk 0 (by omega) (by omega), rfl, o3.le (by omega) (by omega), ?_⟩
    simp only [kD]
    generalize (srt rows).map stD = SS at hk hss ⊢
    simp [e_var, e_int, e_bl, e_non, e_str, e_tyn, e_con, e_bin, e_neg, e_cmp, e_chain, e_and, e_or, e_not, e_ite, e_tup, e_lst, e_idx, e_slc, e_dnewT, e_dgetT, e_fz, e_attr, e_isi, e_sset, e_new, e_call, e_bi, e_heard2, e_app, e_me, es_nil, es_cons, ts_nil, ts_cons, eo_none, eo_some, ec_none, ec_some, i_seq, i_rng, i_zip, i_enum, s_asg, s_par2, s_asgLc, s_asgLcF, s_put, s_putT, s_sat, s_ite, s_ret, s_ret0, s_raise, s_expr, ss_nil, ss_cons, Fl.then, Fl.res, Fn.fill, cmpT, Wl_len, Wl_app, hf, e3, hc, hlst, hss, h3]
    first | exact hk | skip
end
end Fam
end
section
set_option Elab.async false
set_option linter.all false
set_option maxRecDepth 100000
set_option maxHeartbeats 2000000
set_option linter.unusedSimpArgs false
/-! Mg: a team drawn. -/
namespace Fam
open Fy
def waitS : List (List Int) := [[0, 0, 1, 1], [1, 1, 0, 0]]
def turnS : List (List Int) := [[0, 0, 1, 1], [1, 0, 1, 0], [1, 1, 0, 0]]
def waitK : Kd := ⟨2, 0, waitS⟩
def turnK : Kd := ⟨2, 0, turnS⟩
def ringS (st : Int) : List (List Int) := (List.range st.toNat).map fun i : Nat => [(i : Int), 0, ((i : Int) + 1) % st, 0]
def ringK (st : Int) : Kd := ⟨1, 0, ringS st⟩
theorem waitK_ok {st : Int} (h : 2 ≤ st) : KOk st waitK := by
  refine ⟨by decide, by decide, by decide, by decide, by decide, fun r hr => ?_, by decide⟩
  simp only [waitK, waitS, List.mem_cons, List.not_mem_nil, or_false] at hr
  rcases hr with rfl | rfl
  · exact ⟨0, 0, 1, 1, rfl, by omega, by decide, by omega, by decide⟩
  · exact ⟨1, 1, 0, 0, rfl, by omega, by decide, by omega, by decide⟩
theorem turnK_ok : KOk 2 turnK := by
  refine ⟨by decide, by decide, by decide, by decide, by decide, fun r hr => ?_, by decide⟩
  simp only [turnK, turnS, List.mem_cons, List.not_mem_nil, or_false] at hr
  rcases hr with rfl | rfl | rfl
  · exact ⟨0, 0, 1, 1, rfl, by decide, by decide, by decide, by decide⟩
  · exact ⟨1, 0, 1, 0, rfl, by decide, by decide, by decide, by decide⟩
  · exact ⟨1, 1, 0, 0, rfl, by decide, by decide, by decide, by decide⟩
theorem ringK_ok {st : Int} (h1 : 1 ≤ st) (h3 : st ≤ 3) : KOk st (ringK st) := by
  have : st = 1 ∨ st = 2 ∨ st = 3 := by omega
  rcases this with rfl | rfl | rfl
  · refine ⟨by decide, by decide, by decide, by decide, by decide, fun r hr => ?_, by decide⟩
    have e : ringS 1 = [[0, 0, 0, 0]] := rfl
    simp only [ringK, e, List.mem_cons, List.not_mem_nil, or_false] at hr
    subst hr
    exact ⟨0, 0, 0, 0, rfl, by decide, by decide, by decide, by decide⟩
  · refine ⟨by decide, by decide, by decide, by decide, by decide, fun r hr => ?_, by decide⟩
    have e : ringS 2 = [[0, 0, 1, 0], [1, 0, 0, 0]] := rfl
    simp only [ringK, e, List.mem_cons, List.not_mem_nil, or_false] at hr
    rcases hr with rfl | rfl
    · exact ⟨0, 0, 1, 0, rfl, by decide, by decide, by decide, by decide⟩
    · exact ⟨1, 0, 0, 0, rfl, by decide, by decide, by decide, by decide⟩
  · refine ⟨by decide, by decide, by decide, by decide, by decide, fun r hr => ?_, by decide⟩
    have e : ringS 3 = [[0, 0, 1, 0], [1, 0, 2, 0], [2, 0, 0, 0]] := rfl
    simp only [ringK, e, List.mem_cons, List.not_mem_nil, or_false] at hr
    rcases hr with rfl | rfl | rfl
    · exact ⟨0, 0, 1, 0, rfl, by decide, by decide, by decide, by decide⟩
    · exact ⟨1, 0, 2, 0, rfl, by decide, by decide, by decide, by decide⟩
    · exact ⟨2, 0, 0, 0, rfl, by decide, by decide, by decide, by decide⟩
section
variable {tb : Tab} {wf : Nat}
def kdsE : E := .call "_law_kind" (.cons (.var 0) (.cons (.var 6) (.cons (.bin .add (.int 1) (.call "_law_dip" (.cons (.var 0) (.cons (.int 3) .nil)))) .nil)))
abbrev tE (o2 o3 o4 o5 o6 o7 o8 : Option D) : Env := [some (.loc 0), some (.int 3), o2, o3, o4, o5, o6, o7, o8]
theorem kinds_lc (T : H__law_team tb) (k : Nat) {r : Sto} {st : Int} (hs : 1 ≤ st) (hs2 : st ≤ 1000) (o2 o3 o4 o5 o7 o8 : Option D) : ∀ (zs : List D) (n : Int) (w : Int × Int × Int) (acc : List D), (∀ d ∈ zs, ∃ i, d = .int i) → Ok n w → n + 41 * zs.length ≤ 1000000000 → acc.length + zs.length ≤ 1000 →
    ∃ (ks : List Kd) (w' : Int × Int × Int), ks.length = zs.length ∧ (∀ kd ∈ ks, KOk st kd) ∧ Ok (n + 41 * zs.length) w' ∧
      lcLoop (lcF (.nm 5) [5] (tE o2 o3 o4 o5 (some (.int st)) o7 o8) (evC (run tb wf (k+3)) .none) (evE (run tb wf (k+3)) kdsE)) [] zs acc (Wl w r) = .ok (.l (acc ++ ks.map kD)) (Wl w' r)
  | [], n, w, acc, _, hw, _, _ => ⟨[], w, rfl, by simp, by simpa using hw, by simp [lcLoop, stands]⟩
  | z :: zs, n, w, acc, hz, hw, hn, hl => by
    obtain ⟨i, rfl⟩ := hz z (by simp)
    simp only [List.length_cons] at hn hl ⊢
    obtain ⟨d, w1, d0, d1, o1, e1⟩ := dip (wf := wf) T.toH__law_dip (k+2) (m := 3) (r := r) hw (by omega) (by omega) (by omega)
    obtain ⟨kd, w2, a1, a2, o2', e2⟩ := law_kind (wf := wf) T.toH__law_kind k (r := r) (st := st) (sz := 1 + d) o1 (by omega) hs hs2 (by omega) (by omega)
    obtain ⟨ks, w3, b1, b2, b3, e3⟩ := kinds_lc T k (r := r) hs hs2 o2 o3 o4 o5 o7 o8 zs (n + 41) w2 (acc ++ [kD kd]) (fun d hd => hz d (by simp [hd])) (o2'.le (by omega) (by omega)) (by omega) (by simp; omega)
    refine ⟨kd :: ks, w3, by simp [b1], fun x hx => (List.mem_cons.mp hx).elim (fun h => by rw [h]; exact a1) (b2 x), b3.le (by omega) (by omega), ?_⟩
    have hF : lcF (.nm 5) [5] (tE o2 o3 o4 o5 (some (.int st)) o7 o8) (evC (run tb wf (k+3)) .none) (evE (run tb wf (k+3)) kdsE) (.int i) (Wl w r) = .ok (some (kD kd)) (Wl w2 r) := by
      simp [e_var, e_int, e_bl, e_non, e_str, e_tyn, e_con, e_bin, e_neg, e_cmp, e_chain, e_and, e_or, e_not, e_ite, e_tup, e_lst, e_idx, e_slc, e_dnewT, e_dgetT, e_fz, e_attr, e_isi, e_sset, e_new, e_call, e_bi, e_heard2, e_app, e_me, es_nil, es_cons, ts_nil, ts_cons, eo_none, eo_some, ec_none, ec_some, i_seq, i_rng, i_zip, i_enum, s_asg, s_par2, s_asgLc, s_asgLcF, s_put, s_putT, s_sat, s_ite, s_ret, s_ret0, s_raise, s_expr, ss_nil, ss_cons, Fl.then, Fl.res, Fn.fill, cmpT, lcF, kdsE, wipeE, tE, e1, e2]
    have hlt : acc.length < LIM := LIM_lt (by omega)
    rw [lcLoop]
    simp only [stands, List.all_nil, if_true, hF, hlt, e3]
    simp
/-- threads at a lock -/
theorem team_lock (T : H__law_team tb) (k : Nat) {n : Int} {w : Int × Int × Int} {r : Sto} {dm : Int} {w1 w2 : Int × Int × Int} (h0 : 0 ≤ dm) (h1 : dm < 3) (e1 : run tb wf (k+3) "_law_dip" [.loc 0, .int 5] (Wl w r) = .ok (.v (.int 0)) (Wl w1 r)) (e2 : run tb wf (k+3) "_law_dip" [.loc 0, .int 3] (Wl w1 r) = .ok (.v (.int dm)) (Wl w2 r)) :
    ∃ ks : List Kd, ks ≠ [] ∧ ks.length ≤ 3 ∧ (∀ kd ∈ ks, KOk 2 kd) ∧ run tb wf (k+4) "_law_team" [.loc 0, .int 3] (Wl w r) = .ok (.v (.tup [.int 2, .int 0, .fro (ks.map kD)])) (Wl w2 r) := by
  have kw := waitK_ok (st := 2) (by decide)
  have kt := turnK_ok
  have ht : ∀ ks : List Kd, tidy (Wl w r) (.v (.tup [.int 2, .int 0, .fro (ks.map kD)])) (Wl w2 r) = .ok (.v (.tup [.int 2, .int 0, .fro (ks.map kD)])) (Wl w2 r) := fun ks => (Kp.w0 w w2 r).n (pl_under _ (by simp [pl, pls, kDs_pls]))
  have l1 : 1 ≤ LIM := by decide
  have l2 : 2 ≤ LIM := by decide
  have l3 : 3 ≤ LIM := by decide
  have l4 : 4 ≤ LIM := by decide
  have : dm = 0 ∨ dm = 1 ∨ dm = 2 := by omega
  rcases this with rfl | rfl | rfl
  · refine ⟨[waitK, turnK], by simp, by simp, fun x hx => ?_, ?_⟩
    · simp only [List.mem_cons, List.not_mem_nil, or_false] at hx
      rcases hx with rfl | rfl
      · exact kw
      · exact kt
    · have h := ht [waitK, turnK]
      simp only [List.map_cons, List.map_nil, kD, waitK, turnK, waitS, turnS, stD] at h ⊢
      rw [run, T._law_team]
      simp [e_var, e_int, e_bl, e_non, e_str, e_tyn, e_con, e_bin, e_neg, e_cmp, e_chain, e_and, e_or, e_not, e_ite, e_tup, e_lst, e_idx, e_slc, e_dnewT, e_dgetT, e_fz, e_attr, e_isi, e_sset, e_new, e_call, e_bi, e_heard2, e_app, e_me, es_nil, es_cons, ts_nil, ts_cons, eo_none, eo_some, ec_none, ec_some, i_seq, i_rng, i_zip, i_enum, s_asg, s_par2, s_asgLc, s_asgLcF, s_put, s_putT, s_sat, s_ite, s_ret, s_ret0, s_raise, s_expr, ss_nil, ss_cons, Fl.then, Fl.res, Fn.fill, cmpT, f__law_team, e1, e2, l1, l2, l3, l4, h, List.replicate]
  · refine ⟨[waitK, waitK, turnK], by simp, by simp, fun x hx => ?_, ?_⟩
    · simp only [List.mem_cons, List.not_mem_nil, or_false] at hx
      rcases hx with rfl | rfl | rfl
      · exact kw
      · exact kw
      · exact kt
    · have h := ht [waitK, waitK, turnK]
      simp only [List.map_cons, List.map_nil, kD, waitK, turnK, waitS, turnS, stD] at h ⊢
      rw [run, T._law_team]
      simp [e_var, e_int, e_bl, e_non, e_str, e_tyn, e_con, e_bin, e_neg, e_cmp, e_chain, e_and, e_or, e_not, e_ite, e_tup, e_lst, e_idx, e_slc, e_dnewT, e_dgetT, e_fz, e_attr, e_isi, e_sset, e_new, e_call, e_bi, e_heard2, e_app, e_me, es_nil, es_cons, ts_nil, ts_cons, eo_none, eo_some, ec_none, ec_some, i_seq, i_rng, i_zip, i_enum, s_asg, s_par2, s_asgLc, s_asgLcF, s_put, s_putT, s_sat, s_ite, s_ret, s_ret0, s_raise, s_expr, ss_nil, ss_cons, Fl.then, Fl.res, Fn.fill, cmpT, f__law_team, e1, e2, l1, l2, l3, l4, h, List.replicate]
  · refine ⟨[waitK, waitK, waitK], by simp, by simp, fun x hx => ?_, ?_⟩
    · simp only [List.mem_cons, List.not_mem_nil, or_false] at hx
      rcases hx with rfl | rfl | rfl <;> exact kw
    · have h := ht [waitK, waitK, waitK]
      simp only [List.map_cons, List.map_nil, kD, waitK, turnK, waitS, turnS, stD] at h ⊢
      rw [run, T._law_team]
      simp [e_var, e_int, e_bl, e_non, e_str, e_tyn, e_con, e_bin, e_neg, e_cmp, e_chain, e_and, e_or, e_not, e_ite, e_tup, e_lst, e_idx, e_slc, e_dnewT, e_dgetT, e_fz, e_attr, e_isi, e_sset, e_new, e_call, e_bi, e_heard2, e_app, e_me, es_nil, es_cons, ts_nil, ts_cons, eo_none, eo_some, ec_none, ec_some, i_seq, i_rng, i_zip, i_enum, s_asg, s_par2, s_asgLc, s_asgLcF, s_put, s_putT, s_sat, s_ite, s_ret, s_ret0, s_raise, s_expr, ss_nil, ss_cons, Fl.then, Fl.res, Fn.fill, cmpT, f__law_team, e1, e2, l1, l2, l3, l4, h, List.replicate]
/-- any team -/
def ringE : E := .lc [("s", 8)] (.nm 8) (.rng (.cons (.var 6) .nil)) .none (.tup (.cons (.var 8) (.cons (.int 0) (.cons (.bin .mod (.bi .int (.cons (.bin .add (.var 8) (.int 1)) .nil)) (.var 6)) (.cons (.int 0) .nil)))))
theorem ring_lc {cf : CallF} (s : Sto) {st : Int} (h1 : 1 ≤ st) (h3 : st ≤ 3) (o2 o3 o4 o5 o7 o8 : Option D) : evE cf ringE (tE o2 o3 o4 o5 (some (.int st)) o7 o8) s = .ok (.l ((ringS st).map stD)) s := by
  have l4 : 4 ≤ LIM := by decide
  have hr := rangeD_ok (j := st) (by omega) (by omega)
  unfold ringE
  rw [e_lc (I := ⟨(List.range st.toNat).map fun i => D.int (0 + (i : Nat)), []⟩) (s' := s) (by simp [e_var, e_int, e_bl, e_non, e_str, e_tyn, e_con, e_bin, e_neg, e_cmp, e_chain, e_and, e_or, e_not, e_ite, e_tup, e_lst, e_idx, e_slc, e_dnewT, e_dgetT, e_fz, e_attr, e_isi, e_sset, e_new, e_call, e_bi, e_heard2, e_app, e_me, es_nil, es_cons, ts_nil, ts_cons, eo_none, eo_some, ec_none, ec_some, i_seq, i_rng, i_zip, i_enum, s_asg, s_par2, s_asgLc, s_asgLcF, s_put, s_putT, s_sat, s_ite, s_ret, s_ret0, s_raise, s_expr, ss_nil, ss_cons, Fl.then, Fl.res, Fn.fill, cmpT, tE, rangeOf, hr])]
  have hS : (ringS st).map stD = (List.range st.toNat).map fun i : Nat => stD [(i : Int), 0, ((i : Int) + 1) % st, 0] := by simp [ringS]
  rw [hS]
  refine lc_map rfl _ (fun i _ => ?_) (by rw [List.length_range]; exact LIM_le (by omega))
  have hp : 0 < st := by omega
  simp [e_var, e_int, e_bl, e_non, e_str, e_tyn, e_con, e_bin, e_neg, e_cmp, e_chain, e_and, e_or, e_not, e_ite, e_tup, e_lst, e_idx, e_slc, e_dnewT, e_dgetT, e_fz, e_attr, e_isi, e_sset, e_new, e_call, e_bi, e_heard2, e_app, e_me, es_nil, es_cons, ts_nil, ts_cons, eo_none, eo_some, ec_none, ec_some, i_seq, i_rng, i_zip, i_enum, s_asg, s_par2, s_asgLc, s_asgLcF, s_put, s_putT, s_sat, s_ite, s_ret, s_ret0, s_raise, s_expr, ss_nil, ss_cons, Fl.then, Fl.res, Fn.fill, cmpT, lcF, tE, wipeE, l4, hp, stD]
theorem set_map (ks : List Kd) (kd : Kd) : (ks.map kD).set 0 (kD kd) = (ks.set 0 kd).map kD := by rw [List.map_set]
theorem set_ok {st : Int} {ks : List Kd} {kd : Kd} (h : ∀ k ∈ ks, KOk st k) (hk : KOk st kd) : ∀ k ∈ ks.set 0 kd, KOk st k := fun k hm => by
  rcases List.mem_or_eq_of_mem_set hm with h' | h'
  · exact h k h'
  · rw [h']; exact hk
theorem team_any (T : H__law_team tb) (k : Nat) {n : Int} {w : Int × Int × Int} {r : Sto} {way dm : Int} {w1 w2 : Int × Int × Int} (hway : way ≠ 0) (h0 : 0 ≤ dm) (h1 : dm < 3) (hw : Ok n w2) (hn : n + 140 ≤ 1000000000) (e1 : run tb wf (k+3) "_law_dip" [.loc 0, .int 5] (Wl w r) = .ok (.v (.int way)) (Wl w1 r)) (e2 : run tb wf (k+3) "_law_dip" [.loc 0, .int 3] (Wl w1 r) = .ok (.v (.int dm)) (Wl w2 r)) :
    ∃ (st start : Int) (ks : List Kd) (w' : Int × Int × Int), (1 ≤ st ∧ st ≤ 3) ∧ (0 ≤ start ∧ start < st) ∧ ks ≠ [] ∧ ks.length ≤ 3 ∧ (∀ kd ∈ ks, KOk st kd) ∧ Ok (n + 140) w' ∧ run tb wf (k+4) "_law_team" [.loc 0, .int 3] (Wl w r) = .ok (.v (.tup [.int st, .int start, .fro (ks.map kD)])) (Wl w' r) := by
  obtain ⟨ds, w3, s0, s1, o3, e3⟩ := dip (wf := wf) T.toH__law_dip (k+2) (m := 3) (r := r) hw (by omega) (by omega) (by omega)
  have hrg := rangeD_ok (j := 1 + dm) (by omega) (by omega)
  have hlen : ((List.range (1 + dm).toNat).map fun i => D.int (0 + (i : Nat))).length = (1 + dm).toNat := by simp
  let WT : D := .tup (waitS.map stD)
  let TT : D := .tup (turnS.map stD)
  obtain ⟨ks, w4, a1, a2, o4, e4⟩ := kinds_lc (wf := wf) T k (r := r) (st := 1 + ds) (by omega) (by omega) (some (.int way)) (some (.int (1 + dm))) (some WT) (some TT) none none _ (n + 1) w3 [] (range_ints (1 + dm).toNat) o3 (by rw [hlen]; omega) (by rw [hlen]; simp; omega)
  rw [hlen] at a1 o4
  have hne : ks ≠ [] := fun e => by subst e; simp at a1; omega
  have hl3 : ks.length ≤ 3 := by omega
  -- the comprehension
  have hlc : evE (run tb wf (k+3)) (.lc [("turn", 5)] (.nm 5) (.rng (.cons (.var 3) .nil)) .none kdsE) (tE (some (.int way)) (some (.int (1 + dm))) (some WT) (some TT) (some (.int (1 + ds))) none none) (Wl w3 r) = .ok (.l (ks.map kD)) (Wl w4 r) := by
    rw [e_lc (I := ⟨(List.range (1 + dm).toNat).map fun i => D.int (0 + (i : Nat)), []⟩) (s' := Wl w3 r) (by simp [e_var, e_int, e_bl, e_non, e_str, e_tyn, e_con, e_bin, e_neg, e_cmp, e_chain, e_and, e_or, e_not, e_ite, e_tup, e_lst, e_idx, e_slc, e_dnewT, e_dgetT, e_fz, e_attr, e_isi, e_sset, e_new, e_call, e_bi, e_heard2, e_app, e_me, es_nil, es_cons, ts_nil, ts_cons, eo_none, eo_some, ec_none, ec_some, i_seq, i_rng, i_zip, i_enum, s_asg, s_par2, s_asgLc, s_asgLcF, s_put, s_putT, s_sat, s_ite, s_ret, s_ret0, s_raise, s_expr, ss_nil, ss_cons, Fl.then, Fl.res, Fn.fill, cmpT, tE, rangeOf, hrg])]
    simpa using e4
  have at_ : ∀ (w : Int × Int × Int) (xs : List D), (Wl w (r ++ [.lst xs]))[r.length + 1]? = some (.lst xs) := fun w xs => by rw [Wl_s]; simp
  have hix : ∀ xs : List D, xs ≠ [] → L2.ixN xs.length 0 = some 0 := fun xs hx => by
    have : 0 < xs.length := List.length_pos_iff.mpr hx
    simp [L2.ixN, this]
  have hput : ∀ (w : Int × Int × Int) (d : D), putAt (.v (.loc (r.length + 1))) (.int 0) d (Wl w (r ++ [.lst (ks.map kD)])) = some (Wl w (r ++ [.lst ((ks.map kD).set 0 d)])) := fun w d => by
    rw [putAt_loc (at_ w _), hix _ (by simpa using hne)]
    simp [Wl]
  have hkp : ∀ (w' : Int × Int × Int) (ks : List Kd) (start : Int), tidy (Wl w r) (.v (.tup [.int (1 + ds), .int start, .loc (r.length + 1)])) (Wl w' (r ++ [.lst (ks.map kD)])) = .ok (.v (.tup [.int (1 + ds), .int start, .fro (ks.map kD)])) (Wl w' r) := fun w' ks start =>
    (Kp.w w w' r _).tl rfl rfl (by simp [Wl_len]) (at_ w' _) (pls_under _ (kDs_pls ks))
  have l2 : 2 ≤ LIM := by decide
  have l3 : 3 ≤ LIM := by decide
  have l4 : 4 ≤ LIM := by decide
  have len1 : ∀ w, (Wl w r).length = r.length + 1 := fun w => rfl
  unfold kdsE at hlc
  by_cases c1 : way = 1
  · subst c1
    have hring := ring_lc (cf := run tb wf (k+3)) (Wl w4 (r ++ [.lst (ks.map kD)])) (st := 1 + ds) (by omega) (by omega) (some (.int 1)) (some (.int (1 + dm))) (some WT) (some TT) (some (.loc (r.length + 1))) none
    have hp1 := hput w4 (kD (ringK (1 + ds)))
    rw [set_map] at hp1
    obtain ⟨b, w5, b0, b1, o5, e5⟩ := dip (wf := wf) T.toH__law_dip (k+2) (m := 1 + ds) (r := r ++ [.lst ((ks.set 0 (ringK (1 + ds))).map kD)]) o4 (by omega) (by omega) (by omega)
    have hk := hkp w5 (ks.set 0 (ringK (1 + ds))) b
    refine ⟨1 + ds, b, ks.set 0 (ringK (1 + ds)), w5, ⟨by omega, by omega⟩, ⟨b0, b1⟩, by cases ks <;> simp at hne ⊢, by simpa using hl3, set_ok a2 (ringK_ok (by omega) (by omega)), o5.le (by omega) (by omega), ?_⟩
    generalize (ks.set 0 (ringK (1 + ds))).map kD = K2 at *
    generalize ks.map kD = K1 at *
    simp only [kD, ringK] at hp1
    generalize (ringS (1 + ds)).map stD = RS at *
    simp only [WT, TT, waitS, turnS, stD, List.map_cons, List.map_nil, ringE] at hlc hring
    simp only [tE] at hlc hring
    rw [run, T._law_team]
    simp [e_var, e_int, e_bl, e_non, e_str, e_tyn, e_con, e_bin, e_neg, e_cmp, e_chain, e_and, e_or, e_not, e_ite, e_tup, e_lst, e_idx, e_slc, e_dnewT, e_dgetT, e_fz, e_attr, e_isi, e_sset, e_new, e_call, e_bi, e_heard2, e_app, e_me, es_nil, es_cons, ts_nil, ts_cons, eo_none, eo_some, ec_none, ec_some, i_seq, i_rng, i_zip, i_enum, s_asg, s_par2, s_asgLc, s_asgLcF, s_put, s_putT, s_sat, s_ite, s_ret, s_ret0, s_raise, s_expr, ss_nil, ss_cons, Fl.then, Fl.res, Fn.fill, cmpT, f__law_team, e1, e2, e3, l2, l3, l4, hlc, len1, Wl_app, hring, hp1, e5, hk]
  · by_cases c2 : way = 2 ∧ 1 < 1 + ds
    · obtain ⟨rfl, c3⟩ := c2
      have hp1 := hput w4 (kD waitK)
      rw [set_map] at hp1
      obtain ⟨b, w5, b0, b1, o5, e5⟩ := dip (wf := wf) T.toH__law_dip (k+2) (m := 1 + ds) (r := r ++ [.lst ((ks.set 0 waitK).map kD)]) o4 (by omega) (by omega) (by omega)
      have hk := hkp w5 (ks.set 0 waitK) b
      refine ⟨1 + ds, b, ks.set 0 waitK, w5, ⟨by omega, by omega⟩, ⟨b0, b1⟩, by cases ks <;> simp at hne ⊢, by simpa using hl3, set_ok a2 (waitK_ok (by omega)), o5.le (by omega) (by omega), ?_⟩
      generalize (ks.set 0 waitK).map kD = K2 at *
      generalize ks.map kD = K1 at *
      simp only [kD, waitK, waitS, stD, List.map_cons, List.map_nil] at hp1
      simp only [WT, TT, waitS, turnS, stD, List.map_cons, List.map_nil] at hlc
      simp only [tE] at hlc
      rw [run, T._law_team]
      simp [e_var, e_int, e_bl, e_non, e_str, e_tyn, e_con, e_bin, e_neg, e_cmp, e_chain, e_and, e_or, e_not, e_ite, e_tup, e_lst, e_idx, e_slc, e_dnewT, e_dgetT, e_fz, e_attr, e_isi, e_sset, e_new, e_call, e_bi, e_heard2, e_app, e_me, es_nil, es_cons, ts_nil, ts_cons, eo_none, eo_some, ec_none, ec_some, i_seq, i_rng, i_zip, i_enum, s_asg, s_par2, s_asgLc, s_asgLcF, s_put, s_putT, s_sat, s_ite, s_ret, s_ret0, s_raise, s_expr, ss_nil, ss_cons, Fl.then, Fl.res, Fn.fill, cmpT, f__law_team, e1, e2, e3, l2, l3, l4, hlc, len1, Wl_app, c3, hp1, e5, hk]
    · obtain ⟨b, w5, b0, b1, o5, e5⟩ := dip (wf := wf) T.toH__law_dip (k+2) (m := 1 + ds) (r := r ++ [.lst (ks.map kD)]) o4 (by omega) (by omega) (by omega)
      have hk := hkp w5 ks b
      refine ⟨1 + ds, b, ks, w5, ⟨by omega, by omega⟩, ⟨b0, b1⟩, hne, hl3, a2, o5.le (by omega) (by omega), ?_⟩
      generalize ks.map kD = K1 at *
      simp only [WT, TT, waitS, turnS, stD, List.map_cons, List.map_nil] at hlc
      simp only [tE] at hlc
      rw [run, T._law_team]
      by_cases c3 : way = 2
      · subst c3
        have c4 : ¬ 1 < 1 + ds := fun z => c2 ⟨rfl, z⟩
        simp [e_var, e_int, e_bl, e_non, e_str, e_tyn, e_con, e_bin, e_neg, e_cmp, e_chain, e_and, e_or, e_not, e_ite, e_tup, e_lst, e_idx, e_slc, e_dnewT, e_dgetT, e_fz, e_attr, e_isi, e_sset, e_new, e_call, e_bi, e_heard2, e_app, e_me, es_nil, es_cons, ts_nil, ts_cons, eo_none, eo_some, ec_none, ec_some, i_seq, i_rng, i_zip, i_enum, s_asg, s_par2, s_asgLc, s_asgLcF, s_put, s_putT, s_sat, s_ite, s_ret, s_ret0, s_raise, s_expr, ss_nil, ss_cons, Fl.then, Fl.res, Fn.fill, cmpT, f__law_team, e1, e2, e3, l2, l3, l4, hlc, len1, Wl_app, c4, e5, hk]
      · simp [e_var, e_int, e_bl, e_non, e_str, e_tyn, e_con, e_bin, e_neg, e_cmp, e_chain, e_and, e_or, e_not, e_ite, e_tup, e_lst, e_idx, e_slc, e_dnewT, e_dgetT, e_fz, e_attr, e_isi, e_sset, e_new, e_call, e_bi, e_heard2, e_app, e_me, es_nil, es_cons, ts_nil, ts_cons, eo_none, eo_some, ec_none, ec_some, i_seq, i_rng, i_zip, i_enum, s_asg, s_par2, s_asgLc, s_asgLcF, s_put, s_putT, s_sat, s_ite, s_ret, s_ret0, s_raise, s_expr, ss_nil, ss_cons, Fl.then, Fl.res, Fn.fill, cmpT, f__law_team, e1, e2, e3, l2, l3, l4, hlc, len1, Wl_app, hway, c1, c3, e5, hk]
theorem law_team (T : H__law_team tb) (k : Nat) {n : Int} {w : Int × Int × Int} {r : Sto} (hw : Ok n w) (hn : n + 200 ≤ 1000000000) :
    ∃ (st start : Int) (ks : List Kd) (w' : Int × Int × Int), (1 ≤ st ∧ st ≤ 3) ∧ (0 ≤ start ∧ start < st) ∧ ks ≠ [] ∧ ks.length ≤ 3 ∧ (∀ kd ∈ ks, KOk st kd) ∧ Ok (n + 200) w' ∧ run tb wf (k+4) "_law_team" [.loc 0, .int 3] (Wl w r) = .ok (.v (.tup [.int st, .int start, .fro (ks.map kD)])) (Wl w' r) := by
  obtain ⟨way, w1, a0, a1, o1, e1⟩ := dip (wf := wf) T.toH__law_dip (k+2) (m := 5) (r := r) hw (by omega) (by omega) (by omega)
  obtain ⟨dm, w2, b0, b1, o2, e2⟩ := dip (wf := wf) T.toH__law_dip (k+2) (m := 3) (r := r) o1 (by omega) (by omega) (by omega)
  by_cases hway : way = 0
  · subst hway
    obtain ⟨ks, h1, h2, h3, e⟩ := team_lock (n := n) T k b0 b1 e1 e2
    exact ⟨2, 0, ks, w2, by decide, by decide, h1, h2, h3, o2.le (by omega) (by omega), e⟩
  · obtain ⟨st, start, ks, w', c1, c2, c3, c4, c5, c6, e⟩ := team_any T k hway b0 b1 o2 (by omega) e1 e2
    exact ⟨st, start, ks, w', c1, c2, c3, c4, c5, c6.le (by omega) (by omega), e⟩
end
end Fam
end
section
set_option Elab.async false
set_option linter.all false
set_option maxRecDepth 100000
set_option maxHeartbeats 1000000
set_option linter.unusedSimpArgs false
/-! Mh: a kind is taken, its steps by state and local. -/
namespace Fam
open Fy
/-! ### a loop over enumerate that leaves two names -/
theorem for_enum2 {F : D → Env → Sto → Fl} {E : Option D → Option D → Env} {s : Sto} : ∀ (xs : List D) (i : Nat) (o o' : Option D), (∀ (j : Nat) (x : D) (o o' : Option D), xs[j]? = some x → ∃ q q', F (.tup [.int ((i + j : Nat) : Int), x]) (E o o') s = .nx (E q q') s) →
    ∃ q q', forLoop F [] ((xs.zipIdx i).map fun p => .tup [.int (p.2 : Nat), p.1]) (E o o') s = .nx (E q q') s
  | [], i, o, o', _ => ⟨o, o', by simp [forLoop, stands]⟩
  | x :: xs, i, o, o', h => by
    obtain ⟨q, q', e⟩ := h 0 x o o' rfl
    obtain ⟨p, p', e2⟩ := for_enum2 xs (i + 1) q q' fun j y o o' hy => by
      have := h (j + 1) y o o' (by simpa using hy)
      rwa [show i + (j + 1) = i + 1 + j by omega] at this
    refine ⟨p, p', ?_⟩
    simp only [List.zipIdx_cons, List.map_cons, forLoop, stands, List.all_nil, if_true]
    rw [Nat.add_zero] at e
    rw [e]
    simp only [Fl.turn]
    exact e2
theorem rowB_st {st many : Int} {r : List Int} (h : StOk st many r) : rowB [st - 1, many - 1, st - 1, many - 1] (stD r) = true := by
  obtain ⟨s, l, t, m, rfl, h1, h2, h3, h4⟩ := h
  simp [rowB, stD, num]
  omega
section
variable {tb : Tab} {wf : Nat}
def ckB : Ss := forB (nth f_checked_kind.body 4)
abbrev cE (d : D) (i st many beg : Int) (SS : List D) (o6 o7 : Option D) : Env := [some d, some (.int i), some (.int st), some (.int many), some (.int beg), some (.tup SS), o6, o7]
theorem ck_turn (T : H_checked_kind tb) (k : Nat) (s : Sto) {st : Int} {kd : Kd} (h : KOk st kd) (i : Int) {j : Nat} {r : List Int} (hj : kd.steps[j]? = some r) (o6 o7 : Option D) :
    forF (.tp (.cons (.nm 6) (.cons (.nm 7) .nil))) (evSs (run tb wf (k+3)) wf ckB) (.tup [.int (j : Int), stD r]) (cE (kD kd) i st kd.many kd.begin (kd.steps.map stD) o6 o7) s =
      .nx (cE (kD kd) i st kd.many kd.begin (kd.steps.map stD) (some (.int (j : Int))) (some (stD r))) s := by
  have hr := h.ok r (List.mem_of_getElem? hj)
  have e1 := is_row (wf := wf) T.toH_is_row k s (d := stD r) (M := .tup ([st - 1, kd.many - 1, st - 1, kd.many - 1].map .int)) [st - 1, kd.many - 1, st - 1, kd.many - 1] (st_pl r) (.inl rfl) (by simp)
  rw [rowB_st hr] at e1
  simp only [List.map_cons, List.map_nil] at e1
  have h4 : 4 ≤ LIM := by decide
  cases j with
  | zero =>
    generalize kd.steps.map stD = SS
    generalize stD r = R at e1 ⊢
    simp [e_var, e_int, e_bl, e_non, e_str, e_tyn, e_con, e_bin, e_neg, e_cmp, e_chain, e_and, e_or, e_not, e_ite, e_tup, e_lst, e_idx, e_slc, e_dnewT, e_dgetT, e_fz, e_attr, e_isi, e_sset, e_new, e_call, e_bi, e_heard2, e_app, e_me, es_nil, es_cons, ts_nil, ts_cons, eo_none, eo_some, ec_none, ec_some, i_seq, i_rng, i_zip, i_enum, s_asg, s_par2, s_asgLc, s_asgLcF, s_put, s_putT, s_sat, s_ite, s_ret, s_ret0, s_raise, s_expr, ss_nil, ss_cons, Fl.then, Fl.res, Fn.fill, cmpT, forF_ap, ckB, f_checked_kind, nth, forB, cE, h4, e1]
  | succ j =>
    have hlt : j < kd.steps.length := by have := (List.getElem?_eq_some_iff.mp hj).1; omega
    have hp : kd.steps[j]? = some kd.steps[j] := List.getElem?_eq_getElem hlt
    have asc : ordL 0 kd.steps[j] r = true := by
      have hlt2 := (List.getElem?_eq_some_iff.mp hj).1
      have := List.pairwise_iff_getElem.mp h.asc j (j + 1) hlt hlt2 (Nat.lt_succ_self j)
      rwa [(List.getElem?_eq_some_iff.mp hj).2] at this
    have na := ordL_not _ _ asc
    have ha : L2.atI (kd.steps.map stD) (((j + 1 : Nat) : Int) - 1) = some (stD kd.steps[j]) := by
      have : ((j + 1 : Nat) : Int) - 1 = (j : Int) := by omega
      rw [this]
      exact L2.atI_nat (by rw [List.getElem?_map, hp]; rfl)
    have ho : ordT 1 (.v (stD r)) (.v (stD kd.steps[j])) = some false := by
      simp only [stD, ordT, intsD_map, Option.bind_some, Option.map_some, na]
    have hpos : (0 : Int) < ((j + 1 : Nat) : Int) := by omega
    generalize kd.steps.map stD = SS at ha ⊢
    generalize stD kd.steps[j] = P at ha ho
    generalize stD r = R at e1 ho ⊢
    generalize ((j + 1 : Nat) : Int) = jj at ha hpos ⊢
    simp [e_var, e_int, e_bl, e_non, e_str, e_tyn, e_con, e_bin, e_neg, e_cmp, e_chain, e_and, e_or, e_not, e_ite, e_tup, e_lst, e_idx, e_slc, e_dnewT, e_dgetT, e_fz, e_attr, e_isi, e_sset, e_new, e_call, e_bi, e_heard2, e_app, e_me, es_nil, es_cons, ts_nil, ts_cons, eo_none, eo_some, ec_none, ec_some, i_seq, i_rng, i_zip, i_enum, s_asg, s_par2, s_asgLc, s_asgLcF, s_put, s_putT, s_sat, s_ite, s_ret, s_ret0, s_raise, s_expr, ss_nil, ss_cons, Fl.then, Fl.res, Fn.fill, cmpT, forF_ap, ckB, f_checked_kind, nth, forB, cE, h4, e1, hpos, ha, ho]
theorem checked_kind (T : H_checked_kind tb) (k : Nat) (s : Sto) {st : Int} {kd : Kd} (h : KOk st kd) (i : Int) : run tb wf (k+4) "checked_kind" [kD kd, .int i, .int st] s = .ok (.v (kD kd)) s := by
  have e1 := is_sequence (wf := wf) T.toH_is_sequence (k+2) s (d := kD kd) (kD_pl kd)
  have e2 := is_size (wf := wf) T.toH_is_size k s (d := .int kd.many) (j := 64) rfl
  have e3 := is_number2 (wf := wf) T.toH_is_number (k+1) s (d := .int kd.begin) (j := kd.many - 1) rfl
  have e4 := is_sequence (wf := wf) T.toH_is_sequence (k+2) s (d := .tup (kd.steps.map stD)) (by simp [pl, st_pls])
  have q1 : seqB (kD kd) = true := rfl
  have q2 : siz 64 (.int kd.many) = true := by
    have := h.m1
    have := h.m3
    simp [siz]; omega
  have q3 : num (some (kd.many - 1)) (.int kd.begin) = true := by
    have := h.b0
    have := h.b1
    simp [num]; omega
  have q4 : seqB (.tup (kd.steps.map stD)) = true := rfl
  rw [q1] at e1
  rw [q2] at e2
  rw [q3] at e3
  rw [q4] at e4
  have ht := (Kp.self s).n (pl_under _ (kD_pl kd))
  obtain ⟨q6, q7, ef⟩ := for_enum2 (F := forF (.tp (.cons (.nm 6) (.cons (.nm 7) .nil))) (evSs (run tb wf (k+3)) wf ckB)) (E := cE (kD kd) i st kd.many kd.begin (kd.steps.map stD)) (s := s) (kd.steps.map stD) 0 none none fun j x o o' hx => by
    rw [List.getElem?_map, Option.map_eq_some_iff] at hx
    obtain ⟨r, hr, rfl⟩ := hx
    refine ⟨some (.int (j : Int)), some (stD r), ?_⟩
    have := ck_turn (wf := wf) T k s h i hr o o'
    rwa [Nat.zero_add]
  have hf := s_for (cf := run tb wf (k+3)) (wf := wf) (t := .tp (.cons (.nm 6) (.cons (.nm 7) .nil))) (it := .enum (.var 5)) (b := ckB) (ρ := cE (kD kd) i st kd.many kd.begin (kd.steps.map stD) none none) (s := s) (s' := s) (I := ⟨(kd.steps.map stD).zipIdx.map fun p => .tup [.int (p.2 : Nat), p.1], []⟩) (by simp [e_var, e_int, e_bl, e_non, e_str, e_tyn, e_con, e_bin, e_neg, e_cmp, e_chain, e_and, e_or, e_not, e_ite, e_tup, e_lst, e_idx, e_slc, e_dnewT, e_dgetT, e_fz, e_attr, e_isi, e_sset, e_new, e_call, e_bi, e_heard2, e_app, e_me, es_nil, es_cons, ts_nil, ts_cons, eo_none, eo_some, ec_none, ec_some, i_seq, i_rng, i_zip, i_enum, s_asg, s_par2, s_asgLc, s_asgLcF, s_put, s_putT, s_sat, s_ite, s_ret, s_ret0, s_raise, s_expr, ss_nil, ss_cons, Fl.then, Fl.res, Fn.fill, cmpT, cE])
  simp only at hf
  rw [ef] at hf
  have hlen : ¬ (16384 : Int) < ((kd.steps.length : Nat) : Int) := by have := h.len; omega
  have h3 : 3 ≤ LIM := by decide
  rw [run, T.checked_kind]
  simp only [ckB, f_checked_kind, nth, forB, cE, kD] at hf e1 ht ⊢
  have hl2 : (kd.steps.map stD).length = kd.steps.length := List.length_map ..
  generalize kd.steps.map stD = SS at *
  rw [← hl2] at hlen
  simp [e_var, e_int, e_bl, e_non, e_str, e_tyn, e_con, e_bin, e_neg, e_cmp, e_chain, e_and, e_or, e_not, e_ite, e_tup, e_lst, e_idx, e_slc, e_dnewT, e_dgetT, e_fz, e_attr, e_isi, e_sset, e_new, e_call, e_bi, e_heard2, e_app, e_me, es_nil, es_cons, ts_nil, ts_cons, eo_none, eo_some, ec_none, ec_some, i_seq, i_rng, i_zip, i_enum, s_asg, s_par2, s_asgLc, s_asgLcF, s_put, s_putT, s_sat, s_ite, s_ret, s_ret0, s_raise, s_expr, ss_nil, ss_cons, Fl.then, Fl.res, Fn.fill, cmpT, e1, e2, e3, e4, hlen, hf, h3, ht]
end
end Fam
end
section
set_option Elab.async false
set_option linter.all false
set_option maxRecDepth 100000
set_option maxHeartbeats 1000000
set_option linter.unusedSimpArgs false
/-! Mi: steps by state and local; a team made. -/
namespace Fam
open Fy
/-! ### tables -/
theorem dval_nil (k : List Ky) : dval [] k = none := rfl
theorem dval_cons (p : List Ky × D) (r : List (List Ky × D)) (k : List Ky) : dval (p :: r) k = if p.1 = k then some p.2 else dval r k := by
  unfold dval
  by_cases h : p.1 = k <;> simp [List.find?_cons, h]
theorem dval_any (kvs : List (List Ky × D)) (k : List Ky) : (kvs.any fun kv => decide (kv.1 = k)) = (dval kvs k).isSome := by
  induction kvs with
  | nil => rfl
  | cons p r ih =>
    rw [List.any_cons, ih, dval_cons]
    by_cases h : p.1 = k <;> simp [h]
theorem dval_map (k k' : List Ky) (v : D) : ∀ kvs : List (List Ky × D), dval (kvs.map fun kv => if kv.1 = k then (kv.1, v) else kv) k' = if k' = k then (dval kvs k').map fun _ => v else dval kvs k'
  | [] => by simp [dval_nil]
  | p :: r => by
    rw [List.map_cons, dval_cons, dval_cons, dval_map k k' v r]
    by_cases h : p.1 = k
    · by_cases h2 : p.1 = k'
      · have : k' = k := h2.symm.trans h
        simp [h, h2, this]
      · by_cases h3 : k' = k
        · exact absurd (h.trans h3.symm) h2
        · have : ¬ k = k' := fun e => h3 e.symm
          simp [h, this, h3]
    · by_cases h2 : p.1 = k'
      · have : ¬ k' = k := fun e => h (h2.trans e)
        simp [h, h2, this]
      · simp [h, h2]
theorem dval_snoc (k k' : List Ky) (v : D) : ∀ kvs : List (List Ky × D), dval kvs k = none → dval (kvs ++ [(k, v)]) k' = if k' = k then some v else dval kvs k'
  | [], _ => by
    rw [List.nil_append, dval_cons, dval_nil]
    by_cases h : k = k'
    · simp [h]
    · have : ¬ k' = k := fun e => h e.symm
      simp [h, this]
  | p :: r, hn => by
    rw [dval_cons] at hn
    by_cases hp : p.1 = k
    · simp [hp] at hn
    · rw [if_neg hp] at hn
      rw [List.cons_append, dval_cons, dval_cons, dval_snoc k k' v r hn]
      by_cases h2 : p.1 = k'
      · have : ¬ k' = k := fun e => hp (h2.trans e)
        simp [h2, this]
      · simp [h2]
theorem dval_set (kvs : List (List Ky × D)) (k k' : List Ky) (v : D) : dval (dset kvs k v) k' = if k' = k then some v else dval kvs k' := by
  unfold dset
  split
  · rename_i h
    rw [dval_any] at h
    rw [dval_map]
    by_cases e : k' = k
    · subst e
      obtain ⟨x, hx⟩ := Option.isSome_iff_exists.mp h
      simp [hx]
    · simp [e]
  · rename_i h
    rw [dval_any] at h
    exact dval_snoc k k' v kvs (by simpa using h)
theorem dset_len (kvs : List (List Ky × D)) (k : List Ky) (v : D) : (dset kvs k v).length ≤ kvs.length + 1 := by
  unfold dset
  split
  · simp
  · simp
/-- where steps lead from a state and a local: rows [state, local] -/
def lk (steps : List (List Int)) (s l : Int) : List (List Int) := (steps.filter fun r => decide (r.take 2 = [s, l])).map (·.drop 2)
/-- the table of steps -/
def FI (kvs : List (List Ky × D)) (steps : List (List Int)) : Prop := ∀ s l : Int, (dval kvs [.inl s, .inl l]).getD (.tup []) = .tup ((lk steps s l).map stD)
theorem FI.nil : FI [] [] := fun s l => rfl
theorem FI.snoc {kvs : List (List Ky × D)} {steps : List (List Int)} (h : FI kvs steps) (s l t m : Int) : FI (dset kvs [.inl s, .inl l] (.tup ((lk steps s l).map stD ++ [stD [t, m]]))) (steps ++ [[s, l, t, m]]) := fun s' l' => by
  rw [dval_set]
  have e : lk (steps ++ [[s, l, t, m]]) s' l' = if s' = s ∧ l' = l then lk steps s' l' ++ [[t, m]] else lk steps s' l' := by
    unfold lk
    rw [List.filter_append, List.map_append]
    by_cases c : s' = s ∧ l' = l
    · obtain ⟨rfl, rfl⟩ := c
      simp
    · have : ¬ (s = s' ∧ l = l') := fun z => c ⟨z.1.symm, z.2.symm⟩
      simp [this, c]
  rw [e]
  by_cases c : s' = s ∧ l' = l
  · obtain ⟨rfl, rfl⟩ := c
    simp
  · have : ¬ ([Sum.inl s', Sum.inl l'] : List Ky) = [.inl s, .inl l] := fun z => c (by simpa using z)
    rw [if_neg this, if_neg c]
    exact h s' l'
section
variable {tb : Tab} {wf : Nat}
def sfB : Ss := forB (nth f_steps_from.body 1)
abbrev sE (d : D) (n : Nat) (o2 o3 o4 o5 : Option D) : Env := [some d, some (.loc n), o2, o3, o4, o5]
def rowTg : Tg := .tp (.cons (.nm 2) (.cons (.nm 3) (.cons (.nm 4) (.cons (.nm 5) .nil))))
theorem sf_turn (cf : CallF) (d : D) (s : Sto) {kvs : List (List Ky × D)} {steps : List (List Int)} (h : FI kvs steps) (hl : kvs.length ≤ 1000) (hs : steps.length ≤ 1000) (a l t m : Int) (o2 o3 o4 o5 : Option D) :
    forF rowTg (evSs cf wf sfB) (stD [a, l, t, m]) (sE d s.length o2 o3 o4 o5) (s ++ [.dic true kvs]) =
      .nx (sE d s.length (some (.int a)) (some (.int l)) (some (.int t)) (some (.int m))) (s ++ [.dic true (dset kvs [.inl a, .inl l] (.tup ((lk steps a l).map stD ++ [stD [t, m]])))]) := by
  have at_ : (s ++ [O.dic true kvs])[s.length]? = some (.dic true kvs) := by simp
  have h1 : isDic (.v (.loc s.length)) (s ++ [.dic true kvs]) = true := by simp [isDic]
  have hk : dkeys [.int a, .int l] = some [.inl a, .inl l] := rfl
  have h2 : dicAtT (.v (.loc s.length)) [.int a, .int l] (s ++ [.dic true kvs]) = some (dval kvs [.inl a, .inl l]) := by
    simp only [dicAtT, at_, hk, Option.map_some]
  have h3 : ∀ v, dicPutT (.v (.loc s.length)) [.int a, .int l] v (s ++ [.dic true kvs]) = some (s ++ [.dic true (dset kvs [.inl a, .inl l] v)]) := fun v => by
    have : kvs.length < LIM := LIM_lt (by omega)
    simp only [dicPutT, at_, hk, Option.bind_some, if_pos this]
    simp
  have h4 := h a l
  have l2 : 2 ≤ LIM := by decide
  have l1 : 1 ≤ LIM := by decide
  have hll : (lk steps a l).length ≤ steps.length := by simp only [lk, List.length_map]; exact List.length_filter_le _ _
  have ll : (lk steps a l).length + 1 ≤ LIM := LIM_le (by omega)
  have e : stD [a, l, t, m] = .tup [.int a, .int l, .int t, .int m] := rfl
  have e2 : stD [t, m] = .tup [.int t, .int m] := rfl
  have hadd : binT .add (.v (.tup ((lk steps a l).map stD))) (.v (.tup [stD [t, m]])) (s ++ [.dic true kvs]) = some (.v (.tup ((lk steps a l).map stD ++ [stD [t, m]]))) := by
    rw [b_addt, if_pos (by simpa using ll)]
  rw [e2] at hadd
  rw [e, e2]
  generalize (lk steps a l).map stD = LK at *
  simp [e_var, e_int, e_bl, e_non, e_str, e_tyn, e_con, e_bin, e_neg, e_cmp, e_chain, e_and, e_or, e_not, e_ite, e_tup, e_lst, e_idx, e_slc, e_dnewT, e_dgetT, e_fz, e_attr, e_isi, e_sset, e_new, e_call, e_bi, e_heard2, e_app, e_me, es_nil, es_cons, ts_nil, ts_cons, eo_none, eo_some, ec_none, ec_some, i_seq, i_rng, i_zip, i_enum, s_asg, s_par2, s_asgLc, s_asgLcF, s_put, s_putT, s_sat, s_ite, s_ret, s_ret0, s_raise, s_expr, ss_nil, ss_cons, Fl.then, Fl.res, Fn.fill, cmpT, forF_ap, rowTg, sfB, f_steps_from, nth, forB, sE, h1, h2, h4, l1, l2, hadd, h3]
theorem sf_loop (cf : CallF) (d : D) (s : Sto) {st many : Int} : ∀ (rows : List (List Int)) (kvs : List (List Ky × D)) (steps : List (List Int)) (o2 o3 o4 o5 : Option D), FI kvs steps → kvs.length ≤ steps.length → steps.length + rows.length ≤ 1000 → (∀ r ∈ rows, StOk st many r) →
    ∃ kvs' q2 q3 q4 q5, FI kvs' (steps ++ rows) ∧ forLoop (forF rowTg (evSs cf wf sfB)) [] (rows.map stD) (sE d s.length o2 o3 o4 o5) (s ++ [.dic true kvs]) = .nx (sE d s.length q2 q3 q4 q5) (s ++ [.dic true kvs'])
  | [], kvs, steps, o2, o3, o4, o5, h, _, _, _ => ⟨kvs, o2, o3, o4, o5, by simpa using h, by simp [forLoop, stands]⟩
  | r :: rows, kvs, steps, o2, o3, o4, o5, h, hk, hl, hr => by
    simp only [List.length_cons] at hl
    obtain ⟨a, l, t, m, rfl, _⟩ := hr r (by simp)
    have e := sf_turn (wf := wf) cf d s h (by omega) (by omega) a l t m o2 o3 o4 o5
    have dl := dset_len kvs [.inl a, .inl l] (.tup ((lk steps a l).map stD ++ [stD [t, m]]))
    obtain ⟨kvs', q2, q3, q4, q5, h', e2⟩ := sf_loop cf d s rows _ (steps ++ [[a, l, t, m]]) (some (.int a)) (some (.int l)) (some (.int t)) (some (.int m)) (h.snoc a l t m) (by simp; omega) (by simp; omega) (fun r hm => hr r (by simp [hm]))
    refine ⟨kvs', q2, q3, q4, q5, by simpa using h', ?_⟩
    simp only [List.map_cons, forLoop, stands, List.all_nil, if_true, e, Fl.turn]
    exact e2
theorem steps_from (T : H_steps_from tb) (k : Nat) (s : Sto) {st : Int} {kd : Kd} (h : KOk st kd) :
    ∃ kvs, FI kvs kd.steps ∧ run tb wf (k+1) "steps_from" [kD kd] s = .ok (.v (.loc s.length)) (s ++ [.dic true kvs]) := by
  obtain ⟨kvs, q2, q3, q4, q5, hF, ef⟩ := sf_loop (wf := wf) (run tb wf k) (kD kd) s kd.steps [] [] none none none none FI.nil (Nat.le_refl _) (by have := h.len; simp; omega) h.ok
  rw [List.nil_append] at hF
  refine ⟨kvs, hF, ?_⟩
  have hf := s_for (cf := run tb wf k) (wf := wf) (t := rowTg) (it := .seq (.idx (.var 0) (.int 2))) (b := sfB) (ρ := sE (kD kd) s.length none none none none) (s := s ++ [.dic true []]) (s' := s ++ [.dic true []]) (I := ⟨kd.steps.map stD, []⟩) (by simp [e_var, e_int, e_bl, e_non, e_str, e_tyn, e_con, e_bin, e_neg, e_cmp, e_chain, e_and, e_or, e_not, e_ite, e_tup, e_lst, e_idx, e_slc, e_dnewT, e_dgetT, e_fz, e_attr, e_isi, e_sset, e_new, e_call, e_bi, e_heard2, e_app, e_me, es_nil, es_cons, ts_nil, ts_cons, eo_none, eo_some, ec_none, ec_some, i_seq, i_rng, i_zip, i_enum, s_asg, s_par2, s_asgLc, s_asgLcF, s_put, s_putT, s_sat, s_ite, s_ret, s_ret0, s_raise, s_expr, ss_nil, ss_cons, Fl.then, Fl.res, Fn.fill, cmpT, sE, kD])
  simp only at hf
  rw [ef] at hf
  have ht : tidy s (.v (.loc s.length)) (s ++ [.dic true kvs]) = .ok (.v (.loc s.length)) (s ++ [.dic true kvs]) := by
    unfold tidy
    rw [kept_app, if_pos rfl]
    simp [reT]
  rw [run, T.steps_from]
  simp only [sfB, rowTg, f_steps_from, nth, forB, sE] at hf ⊢
  simp [e_var, e_int, e_bl, e_non, e_str, e_tyn, e_con, e_bin, e_neg, e_cmp, e_chain, e_and, e_or, e_not, e_ite, e_tup, e_lst, e_idx, e_slc, e_dnewT, e_dgetT, e_fz, e_attr, e_isi, e_sset, e_new, e_call, e_bi, e_heard2, e_app, e_me, es_nil, es_cons, ts_nil, ts_cons, eo_none, eo_some, ec_none, ec_some, i_seq, i_rng, i_zip, i_enum, s_asg, s_par2, s_asgLc, s_asgLcF, s_put, s_putT, s_sat, s_ite, s_ret, s_ret0, s_raise, s_expr, ss_nil, ss_cons, Fl.then, Fl.res, Fn.fill, cmpT, hf, ht]
end
end Fam
end
section
set_option Elab.async false
set_option linter.all false
set_option maxRecDepth 100000
set_option maxHeartbeats 1000000
set_option linter.unusedSimpArgs false
/-! Mj: a team made. -/
namespace Fam
open Fy
def F1 (st : Int) : List (PySem.Str × D) := [("states", .int st)]
def F2 (st start : Int) : List (PySem.Str × D) := [("states", .int st), ("start", .int start)]
def F3 (st start : Int) (K : List D) : List (PySem.Str × D) := [("states", .int st), ("start", .int start), ("kinds", .tup K)]
def F4 (st start : Int) (K : List D) (a : Int) : List (PySem.Str × D) := [("states", .int st), ("start", .int start), ("kinds", .tup K), ("alone", .int a)]
def F5 (st start : Int) (K : List D) (a : Int) (S : List D) : List (PySem.Str × D) := [("states", .int st), ("start", .int start), ("kinds", .tup K), ("alone", .int a), ("singles", .tup S)]
def F6 (st start : Int) (K : List D) (a : Int) (S C : List D) : List (PySem.Str × D) := [("states", .int st), ("start", .int start), ("kinds", .tup K), ("alone", .int a), ("singles", .tup S), ("crowds", .tup C)]
def teamF (st start : Int) (K : List D) (a : Int) (S C L : List D) : List (PySem.Str × D) := [("states", .int st), ("start", .int start), ("kinds", .tup K), ("alone", .int a), ("singles", .tup S), ("crowds", .tup C), ("froms", .tup L)]
theorem p1 (v : Int) : fput "states" (.int v) [] = F1 v := rfl
theorem p2 (st v : Int) : fput "start" (.int v) (F1 st) = F2 st v := rfl
theorem p3 (st start : Int) (K : List D) : fput "kinds" (.tup K) (F2 st start) = F3 st start K := rfl
theorem p4 (st start : Int) (K : List D) (a : Int) : fput "alone" (.int a) (F3 st start K) = F4 st start K a := rfl
theorem p5 (st start : Int) (K : List D) (a : Int) (S : List D) : fput "singles" (.tup S) (F4 st start K a) = F5 st start K a S := rfl
theorem p6 (st start : Int) (K : List D) (a : Int) (S C : List D) : fput "crowds" (.tup C) (F5 st start K a S) = F6 st start K a S C := rfl
theorem p7 (st start : Int) (K : List D) (a : Int) (S C L : List D) : fput "froms" (.tup L) (F6 st start K a S C) = teamF st start K a S C L := rfl
theorem g3 (st start : Int) (K : List D) (a : Int) : fget (F4 st start K a) "kinds" = some (.tup K) := rfl
theorem g4 (st start : Int) (K : List D) (a : Int) : fget (F4 st start K a) "alone" = some (.int a) := rfl
theorem g5 (st start : Int) (K : List D) (a : Int) (S : List D) : fget (F5 st start K a S) "kinds" = some (.tup K) := rfl
theorem g6 (st start : Int) (K : List D) (a : Int) (S : List D) : fget (F5 st start K a S) "alone" = some (.int a) := rfl
theorem g7 (st start : Int) (K : List D) (a : Int) (S C : List D) : fget (F6 st start K a S C) "kinds" = some (.tup K) := rfl
section
variable (st start : Int) (K : List D) (a : Int) (S C L : List D)
theorem t_states : fget (teamF st start K a S C L) "states" = some (.int st) := rfl
theorem t_start : fget (teamF st start K a S C L) "start" = some (.int start) := rfl
theorem t_kinds : fget (teamF st start K a S C L) "kinds" = some (.tup K) := rfl
theorem t_alone : fget (teamF st start K a S C L) "alone" = some (.int a) := rfl
theorem t_singles : fget (teamF st start K a S C L) "singles" = some (.tup S) := rfl
theorem t_crowds : fget (teamF st start K a S C L) "crowds" = some (.tup C) := rfl
theorem t_froms : fget (teamF st start K a S C L) "froms" = some (.tup L) := rfl
end
theorem fp_at (s : Sto) (fs : List (PySem.Str × D)) (x : Sto) (f : PySem.Str) (v : D) (h : fs.length < 1000) : fldPut "Team" (.v (.loc s.length)) f v (s ++ .ins "Team" fs :: x) = some (s ++ .ins "Team" (fput f v fs) :: x) := by
  have at_ : (s ++ O.ins "Team" fs :: x)[s.length]? = some (.ins "Team" fs) := by simp
  simp only [fldPut, at_, h, and_self, if_true]
  congr 1
  rw [List.set_append_right _ _ (Nat.le_refl _)]
  simp
theorem fa_at (s : Sto) (fs : List (PySem.Str × D)) (x : Sto) (f : PySem.Str) : fldAt (.v (.loc s.length)) f (s ++ .ins "Team" fs :: x) = fget fs f := by
  have at_ : (s ++ O.ins "Team" fs :: x)[s.length]? = some (.ins "Team" fs) := by simp
  simp only [fldAt, at_]
theorem cut_take (xs : List D) (n : Nat) (h : n ≤ xs.length) : cutD xs none (some (n : Int)) = xs.take n := by
  unfold cutD
  rw [HT.sIx_none, HT.sIx_nat]
  simp [Nat.min_eq_left h]
theorem cut_drop (xs : List D) (n : Nat) (h : n ≤ xs.length) : cutD xs (some (n : Int)) none = xs.drop n := by
  unfold cutD
  rw [HT.sIx_none, HT.sIx_nat, Nat.min_eq_left h]
  exact List.take_of_length_le (by simp)
theorem kept_pre (n : Nat) : ∀ s a b : Sto, keptB n (s ++ a) (s ++ b) = keptB n a b
  | [], _, _ => rfl
  | o :: s, a, b => by simp [keptB, kept_pre n s a b]
section
variable {tb : Tab} {wf : Nat}
/-- the kinds, each taken -/
theorem kinds_ck (T : H_checked_kind tb) (k : Nat) (s : Sto) {st : Int} (all : List Kd) (h : ∀ kd ∈ all, KOk st kd) (hl : all.length ≤ 1000) (x0 x2 x3 x4 : D) :
    lcLoop (lcF (.tp (.cons (.nm 5) (.cons (.nm 6) .nil))) [5, 6] [some x0, some (.int st), some x2, some x3, some x4, none, none] (evC (run tb wf (k+4)) .none) (evE (run tb wf (k+4)) (.call "checked_kind" (.cons (.var 6) (.cons (.var 5) (.cons (.var 1) .nil)))))) [] ((all.map kD).zipIdx.map fun p => .tup [.int (p.2 : Nat), p.1]) [] s = .ok (.l (all.map kD)) s := by
  have := lc_map (F := lcF (.tp (.cons (.nm 5) (.cons (.nm 6) .nil))) [5, 6] [some x0, some (.int st), some x2, some x3, some x4, none, none] (evC (run tb wf (k+4)) .none) (evE (run tb wf (k+4)) (.call "checked_kind" (.cons (.var 6) (.cons (.var 5) (.cons (.var 1) .nil))))))
    (A := fun p : D × Nat => .tup [.int (p.2 : Nat), p.1]) (G := fun p : D × Nat => p.1) (s := s) (src := []) rfl ((all.map kD).zipIdx) (fun p hp => ?_) (by simp; exact LIM_le (by omega))
  · rw [this]
    congr 2
    simp
  · have hm : p.1 ∈ all.map kD := by
      have := List.mem_zipIdx_iff_getElem?.mp hp
      exact List.mem_of_getElem? this
    obtain ⟨kd, hk, e⟩ := List.mem_map.mp hm
    have e1 := checked_kind (wf := wf) T k s (h kd hk) (p.2 : Int)
    rw [e] at e1
    generalize ((p.2 : Nat) : Int) = j at e1 ⊢
    simp [e_var, e_int, e_bl, e_non, e_str, e_tyn, e_con, e_bin, e_neg, e_cmp, e_chain, e_and, e_or, e_not, e_ite, e_tup, e_lst, e_idx, e_slc, e_dnewT, e_dgetT, e_fz, e_attr, e_isi, e_sset, e_new, e_call, e_bi, e_heard2, e_app, e_me, es_nil, es_cons, ts_nil, ts_cons, eo_none, eo_some, ec_none, ec_some, i_seq, i_rng, i_zip, i_enum, s_asg, s_par2, s_asgLc, s_asgLcF, s_put, s_putT, s_sat, s_ite, s_ret, s_ret0, s_raise, s_expr, ss_nil, ss_cons, Fl.then, Fl.res, Fn.fill, cmpT, lcF, wipeE, e1]
/-- their steps -/
theorem froms_lc (T : H_steps_from tb) (k : Nat) {st : Int} (ρ : Env) (hρ : ρ.length = 7) : ∀ (all : List Kd) (s : Sto) (acc : List D), (∀ kd ∈ all, KOk st kd) → acc.length + all.length ≤ 1000 →
    ∃ kvss : List (List (List Ky × D)), kvss.length = all.length ∧ (∀ (i : Nat) (kd : Kd) (kvs : List (List Ky × D)), all[i]? = some kd → kvss[i]? = some kvs → FI kvs kd.steps) ∧
      lcLoop (lcF (.nm 6) [6] ρ (evC (run tb wf (k+1)) .none) (evE (run tb wf (k+1)) (.call "steps_from" (.cons (.var 6) .nil)))) [] (all.map kD) acc s = .ok (.l (acc ++ (List.range' s.length all.length).map .loc)) (s ++ kvss.map (.dic true))
  | [], s, acc, _, _ => ⟨[], rfl, fun i kd kvs h => by simp at h, by simp [lcLoop, stands]⟩
  | kd :: all, s, acc, h, hl => by
    simp only [List.length_cons] at hl
    obtain ⟨kvs, hF, e⟩ := steps_from (wf := wf) T k s (h kd (by simp))
    obtain ⟨kvss, h1, h2, e2⟩ := froms_lc T k ρ hρ all (s ++ [.dic true kvs]) (acc ++ [.loc s.length]) (fun x hx => h x (by simp [hx])) (by simp; omega)
    refine ⟨kvs :: kvss, by simp [h1], fun i kd' kvs' a b => ?_, ?_⟩
    · cases i with
      | zero =>
        simp at a b
        subst a b
        exact hF
      | succ i => exact h2 i kd' kvs' (by simpa using a) (by simpa using b)
    · have hg : (ρ.set 6 (some (kD kd)))[6]? = some (some (kD kd)) := List.getElem?_set_self (by omega)
      have hw : ((wipeE ρ [6]).set 6 (some (kD kd)))[6]? = some (some (kD kd)) := List.getElem?_set_self (by simp [wipeE]; omega)
      have hT : lcF (.nm 6) [6] ρ (evC (run tb wf (k+1)) .none) (evE (run tb wf (k+1)) (.call "steps_from" (.cons (.var 6) .nil))) (kD kd) s = .ok (some (.loc s.length)) (s ++ [.dic true kvs]) := by
        unfold lcF
        rw [bt_nm]
        generalize (wipeE ρ [6]).set 6 (some (kD kd)) = ρ' at hw
        simp [e_var, e_int, e_bl, e_non, e_str, e_tyn, e_con, e_bin, e_neg, e_cmp, e_chain, e_and, e_or, e_not, e_ite, e_tup, e_lst, e_idx, e_slc, e_dnewT, e_dgetT, e_fz, e_attr, e_isi, e_sset, e_new, e_call, e_bi, e_heard2, e_app, e_me, es_nil, es_cons, ts_nil, ts_cons, eo_none, eo_some, ec_none, ec_some, i_seq, i_rng, i_zip, i_enum, s_asg, s_par2, s_asgLc, s_asgLcF, s_put, s_putT, s_sat, s_ite, s_ret, s_ret0, s_raise, s_expr, ss_nil, ss_cons, Fl.then, Fl.res, Fn.fill, cmpT, hw, e]
      have hlt : acc.length < LIM := LIM_lt (by omega)
      rw [List.map_cons, lcLoop]
      simp only [stands, List.all_nil, if_true, hT, hlt]
      rw [e2]
      have q1 : acc ++ [.loc s.length] ++ (List.range' (s ++ [O.dic true kvs]).length all.length).map D.loc = acc ++ (List.range' s.length (kd :: all).length).map .loc := by simp [List.range'_succ]
      have q2 : s ++ [O.dic true kvs] ++ kvss.map (.dic true) = s ++ (kvs :: kvss).map (.dic true) := by simp
      rw [q1, q2]
theorem team_init (T : H_Team___init__ tb) (k : Nat) (s : Sto) {st start : Int} {ks cs : List Kd} (h1 : 1 ≤ st) (h2 : st ≤ 256) (h3 : 0 ≤ start) (h4 : start < st) (hk : ∀ kd ∈ ks ++ cs, KOk st kd) (hl1 : 1 ≤ (ks ++ cs).length) (hl6 : (ks ++ cs).length ≤ 6) :
    ∃ kvss : List (List (List Ky × D)), kvss.length = (ks ++ cs).length ∧ (∀ (i : Nat) (kd : Kd) (kvs : List (List Ky × D)), (ks ++ cs)[i]? = some kd → kvss[i]? = some kvs → FI kvs kd.steps) ∧
      run tb wf (k+5) "Team.__init__" [.loc s.length, .int st, .int start, .fro (ks.map kD), .tup (cs.map kD)] (s ++ [.ins "Team" []]) =
        .ok (.v .non) (s ++ .ins "Team" (teamF st start ((ks ++ cs).map kD) ks.length (ks.map kD) (cs.map kD) ((List.range' (s.length + 1) (ks ++ cs).length).map .loc)) :: kvss.map (.dic true)) := by
  obtain ⟨kvss, a1, a2, e2⟩ := froms_lc (wf := wf) T.toH_steps_from (k+3) [some (.loc s.length), some (.int st), some (.int start), some (.fro (ks.map kD)), some (.tup (cs.map kD)), none, none] rfl (ks ++ cs) (s ++ [.ins "Team" (F6 st start ((ks ++ cs).map kD) ks.length (ks.map kD) (cs.map kD))]) [] hk (by simp only [List.length_nil]; omega)
  refine ⟨kvss, a1, a2, ?_⟩
  have e1 := is_size (wf := wf) T.toH_is_size (k+1) (s ++ [.ins "Team" []]) (d := .int st) (j := 256) rfl
  have q1 : siz 256 (.int st) = true := by simp [siz]; omega
  have e3 := is_number2 (wf := wf) T.toH_is_number (k+2) (s ++ [.ins "Team" []]) (d := .int start) (j := st - 1) rfl
  have q3 : num (some (st - 1)) (.int start) = true := by simp [num]; omega
  have e4 := is_sequence (wf := wf) T.toH_is_sequence (k+3) (s ++ [.ins "Team" []]) (d := .fro (ks.map kD)) (by simp [pl, kDs_pls])
  have e5 := is_sequence (wf := wf) T.toH_is_sequence (k+3) (s ++ [.ins "Team" []]) (d := .tup (cs.map kD)) (by simp [pl, kDs_pls])
  rw [q1] at e1
  rw [q3] at e3
  simp only [seqB] at e4 e5
  have eck := kinds_ck (wf := wf) T.toH_checked_kind k (s ++ [.ins "Team" (F2 st start)]) (ks ++ cs) hk (by omega) (.loc s.length) (.int start) (.fro (ks.map kD)) (.tup (cs.map kD))
  have ll1 : (1 : Int) ≤ (((ks.map kD).length : Nat) : Int) + (((cs.map kD).length : Nat) : Int) := by simp at hl1 ⊢; omega
  have ll6 : (((ks.map kD).length : Nat) : Int) + (((cs.map kD).length : Nat) : Int) ≤ 6 := by simp at hl6 ⊢; omega
  have ll : (ks.map kD).length + (cs.map kD).length ≤ LIM := LIM_le (by simp at hl6 ⊢; omega)
  have el : ((ks.map kD).length : Int) = (ks.length : Int) := by simp
  have ct := cut_take ((ks ++ cs).map kD) ks.length (by simp)
  have cd := cut_drop ((ks ++ cs).map kD) ks.length (by simp)
  have ct2 : ((ks ++ cs).map kD).take ks.length = ks.map kD := by rw [List.map_append]; exact List.take_left' (by simp)
  have cd2 : ((ks ++ cs).map kD).drop ks.length = cs.map kD := by rw [List.map_append]; exact List.drop_left' (by simp)
  rw [ct2] at ct
  rw [cd2] at cd
  have hsl : (s ++ [O.ins "Team" (F6 st start ((ks ++ cs).map kD) ks.length (ks.map kD) (cs.map kD))]).length = s.length + 1 := by simp
  rw [hsl, List.nil_append] at e2
  -- comprehensions
  have hc1 : evE (run tb wf (k+4)) (.lc [("i", 5), ("kind", 6)] (.tp (.cons (.nm 5) (.cons (.nm 6) .nil))) (.enum (.bin .add (.bi .list (.cons (.var 3) .nil)) (.bi .list (.cons (.var 4) .nil)))) .none (.call "checked_kind" (.cons (.var 6) (.cons (.var 5) (.cons (.var 1) .nil)))))
      [some (.loc s.length), some (.int st), some (.int start), some (.fro (ks.map kD)), some (.tup (cs.map kD)), none, none] (s ++ [.ins "Team" (F2 st start)]) = .ok (.l ((ks ++ cs).map kD)) (s ++ [.ins "Team" (F2 st start)]) := by
    rw [e_lc (I := ⟨((ks ++ cs).map kD).zipIdx.map fun p => .tup [.int (p.2 : Nat), p.1], []⟩) (s' := s ++ [.ins "Team" (F2 st start)])]
    · exact eck
    · have ec : ks.map kD ++ cs.map kD = (ks ++ cs).map kD := by simp
      have ll' : ks.length + cs.length ≤ LIM := LIM_le (by simp at hl6; omega)
      simp [e_var, e_int, e_bl, e_non, e_str, e_tyn, e_con, e_bin, e_neg, e_cmp, e_chain, e_and, e_or, e_not, e_ite, e_tup, e_lst, e_idx, e_slc, e_dnewT, e_dgetT, e_fz, e_attr, e_isi, e_sset, e_new, e_call, e_bi, e_heard2, e_app, e_me, es_nil, es_cons, ts_nil, ts_cons, eo_none, eo_some, ec_none, ec_some, i_seq, i_rng, i_zip, i_enum, s_asg, s_par2, s_asgLc, s_asgLcF, s_put, s_putT, s_sat, s_ite, s_ret, s_ret0, s_raise, s_expr, ss_nil, ss_cons, Fl.then, Fl.res, Fn.fill, cmpT, ll']
  have hc2 : evE (run tb wf (k+4)) (.lc [("kind", 6)] (.nm 6) (.seq (.attr (.var 0) "kinds")) .none (.call "steps_from" (.cons (.var 6) .nil)))
      [some (.loc s.length), some (.int st), some (.int start), some (.fro (ks.map kD)), some (.tup (cs.map kD)), none, none] (s ++ [.ins "Team" (F6 st start ((ks ++ cs).map kD) ks.length (ks.map kD) (cs.map kD))]) =
        .ok (.l ((List.range' (s.length + 1) (ks ++ cs).length).map .loc)) (s ++ .ins "Team" (F6 st start ((ks ++ cs).map kD) ks.length (ks.map kD) (cs.map kD)) :: kvss.map (.dic true)) := by
    rw [e_lc (I := ⟨(ks ++ cs).map kD, []⟩) (s' := s ++ [.ins "Team" (F6 st start ((ks ++ cs).map kD) ks.length (ks.map kD) (cs.map kD))])]
    · simp only [List.map_cons, List.map_nil]
      rw [e2]
      simp
    · simp [e_var, e_int, e_bl, e_non, e_str, e_tyn, e_con, e_bin, e_neg, e_cmp, e_chain, e_and, e_or, e_not, e_ite, e_tup, e_lst, e_idx, e_slc, e_dnewT, e_dgetT, e_fz, e_attr, e_isi, e_sset, e_new, e_call, e_bi, e_heard2, e_app, e_me, es_nil, es_cons, ts_nil, ts_cons, eo_none, eo_some, ec_none, ec_some, i_seq, i_rng, i_zip, i_enum, s_asg, s_par2, s_asgLc, s_asgLcF, s_put, s_putT, s_sat, s_ite, s_ret, s_ret0, s_raise, s_expr, ss_nil, ss_cons, Fl.then, Fl.res, Fn.fill, cmpT, fa_at, g7]
  have l1000 : ∀ n : Nat, n ≤ 7 → n < 1000 := fun n h => by omega
  have f1 : (F1 st).length < 1000 := l1000 _ (by simp [F1, F2, F3, F4, F5, F6])
  have f2 : (F2 st start).length < 1000 := l1000 _ (by simp [F1, F2, F3, F4, F5, F6])
  have f3 : ∀ K, (F3 st start K).length < 1000 := fun _ => l1000 _ (by simp [F1, F2, F3, F4, F5, F6])
  have f4 : ∀ K a, (F4 st start K a).length < 1000 := fun _ _ => l1000 _ (by simp [F1, F2, F3, F4, F5, F6])
  have f5 : ∀ K a S, (F5 st start K a S).length < 1000 := fun _ _ _ => l1000 _ (by simp [F1, F2, F3, F4, F5, F6])
  have f6 : ∀ K a S C, (F6 st start K a S C).length < 1000 := fun _ _ _ _ => l1000 _ (by simp [F1, F2, F3, F4, F5, F6])
  have ht : tidy (s ++ [.ins "Team" []]) (.v .non) (s ++ .ins "Team" (teamF st start ((ks ++ cs).map kD) ks.length (ks.map kD) (cs.map kD) ((List.range' (s.length + 1) (ks ++ cs).length).map .loc)) :: kvss.map (.dic true)) =
      .ok (.v .non) (s ++ .ins "Team" (teamF st start ((ks ++ cs).map kD) ks.length (ks.map kD) (cs.map kD) ((List.range' (s.length + 1) (ks ++ cs).length).map .loc)) :: kvss.map (.dic true)) := by
    have hk : keptB (s ++ [O.ins "Team" []]).length (s ++ [.ins "Team" []]) (s ++ .ins "Team" (teamF st start ((ks ++ cs).map kD) ks.length (ks.map kD) (cs.map kD) ((List.range' (s.length + 1) (ks ++ cs).length).map .loc)) :: kvss.map (.dic true)) = false := by
      rw [kept_pre]
      obtain ⟨m, hm⟩ : ∃ m, (ks ++ cs).length = m + 1 := ⟨(ks ++ cs).length - 1, by omega⟩
      rw [hm, List.range'_succ]
      simp [keptB, teamF, O.under, D.under, D.unders]
    unfold tidy
    rw [hk]
    rfl
  rw [run, T.Team___init__]
  simp only [f_Team___init__]
  generalize (ks ++ cs).map kD = K at *
  generalize ks.map kD = S at *
  generalize cs.map kD = C at *
  generalize (List.range' (s.length + 1) (ks ++ cs).length).map D.loc = L at *
  rw [el] at ll1 ll6
  generalize (ks.length : Int) = al at *
  simp [e_var, e_int, e_bl, e_non, e_str, e_tyn, e_con, e_bin, e_neg, e_cmp, e_chain, e_and, e_or, e_not, e_ite, e_tup, e_lst, e_idx, e_slc, e_dnewT, e_dgetT, e_fz, e_attr, e_isi, e_sset, e_new, e_call, e_bi, e_heard2, e_app, e_me, es_nil, es_cons, ts_nil, ts_cons, eo_none, eo_some, ec_none, ec_some, i_seq, i_rng, i_zip, i_enum, s_asg, s_par2, s_asgLc, s_asgLcF, s_put, s_putT, s_sat, s_ite, s_ret, s_ret0, s_raise, s_expr, ss_nil, ss_cons, Fl.then, Fl.res, Fn.fill, cmpT, e1, e3, e4, e5, el, ll1, ll6, fp_at, fa_at, p1, p2, p3, p4, p5, p6, p7, g3, g4, g5, g6, f1, f2, f3, f4, f5, f6, hc1, ct, cd, hc2, ht]
end
end Fam
end
section
set_option Elab.async false
set_option linter.all false
set_option maxRecDepth 100000
set_option maxHeartbeats 1000000
set_option linter.unusedSimpArgs false
/-! Mk: equality of rows, what is in a list of rows; a team in a store. -/
namespace Fam
open Fy
open PySem (PyData)
theorem pys_ints : ∀ r : List Int, D.pys (r.map .int) = some (r.map .int)
  | [] => rfl
  | i :: r => by simp [D.pys, D.py, pys_ints r]
theorem py_st (r : List Int) : D.py (stD r) = some (.tuple (r.map .int)) := by simp [stD, D.py, pys_ints]
theorem pys_sts : ∀ rs : List (List Int), D.pys (rs.map stD) = some (rs.map fun r => .tuple (r.map .int))
  | [] => rfl
  | r :: rs => by simp [D.pys, py_st, pys_sts rs]
theorem lay_ints : ∀ r : List Int, PyData.canLayAll0 (r.map .int) = true
  | [] => rfl
  | i :: r => by simp [PyData.canLayAll0, PyData.canLay0, lay_ints r]
theorem dep_ints : ∀ r : List Int, PyData.depthAll (r.map .int) = 0
  | [] => rfl
  | i :: r => by simp [PyData.depthAll, PyData.depth, dep_ints r]
theorem lay_sts : ∀ rs : List (List Int), PyData.canLayAll0 (rs.map fun r => .tuple (r.map .int)) = true
  | [] => rfl
  | i :: r => by simp [PyData.canLayAll0, PyData.canLay0, lay_ints, lay_sts r]
theorem dep_sts : ∀ rs : List (List Int), PyData.depthAll (rs.map fun r => .tuple (r.map .int)) ≤ 1
  | [] => Nat.zero_le _
  | i :: r => by
    have := dep_sts r
    simp only [List.map_cons, PyData.depthAll, PyData.depth, dep_ints]
    omega
theorem sh_st (r : List Int) : PySem.SeqAt.shaped (.tuple (r.map .int)) = true := by simp [PySem.SeqAt.shaped, PyData.canLay0, PyData.depth, lay_ints, dep_ints]
theorem sh_sts (rs : List (List Int)) : PySem.SeqAt.shaped (.tuple (rs.map fun r => .tuple (r.map .int))) = true := by
  have := dep_sts rs
  simp only [PySem.SeqAt.shaped, PyData.canLay0, PyData.depth, lay_sts, Bool.true_and]
  exact decide_eq_true (by omega)
theorem sh_stl (rs : List (List Int)) : PySem.SeqAt.shaped (.list (rs.map fun r => .tuple (r.map .int))) = true := by
  have := dep_sts rs
  simp only [PySem.SeqAt.shaped, PyData.canLay0, PyData.depth, lay_sts, Bool.true_and]
  exact decide_eq_true (by omega)
theorem eqv_ints : ∀ a b : List Int, PyData.eqvAll (a.map .int) (b.map .int) = decide (a = b)
  | [], [] => rfl
  | [], _ :: _ => by simp [PyData.eqvAll]
  | _ :: _, [] => by simp [PyData.eqvAll]
  | x :: a, y :: b => by
    simp only [List.map_cons, PyData.eqvAll, PyData.eqv, eqv_ints a b, List.cons.injEq]
    by_cases e : x = y <;> simp [e]
theorem eqv_st (a b : List Int) : PyData.eqv (.tuple (a.map .int)) (.tuple (b.map .int)) = decide (a = b) := by rw [PyData.eqv, eqv_ints]
theorem eq_st (a b : List Int) (s : Sto) : eqT (.v (stD a)) (.v (stD b)) s = some (decide (a = b)) := by
  have h1 := py_st a
  have h2 := py_st b
  simp only [stD] at h1 h2 ⊢
  simp only [eqT, pyOf, h1, h2, Option.bind_some, sh_st, Bool.and_self, if_true, eqv_st]
theorem eq_sts0 (rs : List (List Int)) (s : Sto) : eqT (.v (.tup (rs.map stD))) (.v (.tup [])) s = some (decide (rs = [])) := by
  simp only [eqT, pyOf, D.py, pys_sts, D.pys, Option.map_some, Option.bind_some, sh_sts]
  cases rs with
  | nil => rfl
  | cons r rs => simp [PyData.eqv, PyData.eqvAll, PySem.SeqAt.shaped, PyData.canLay0, PyData.canLayAll0, PyData.depth, PyData.depthAll]
theorem eq_fsts0 (rs : List (List Int)) (s : Sto) : eqT (.v (.fro (rs.map stD))) (.l []) s = some (decide (rs = [])) := by
  simp only [eqT, pyOf, D.py, pys_sts, D.pys, Option.map_some, Option.bind_some, sh_stl]
  cases rs with
  | nil => rfl
  | cons r rs => simp [PyData.eqv, PyData.eqvAll, PySem.SeqAt.shaped, PyData.canLay0, PyData.canLayAll0, PyData.depth, PyData.depthAll]
/-! kinds -/
theorem py_kd (k : Kd) : D.py (kD k) = some (.tuple [.int k.many, .int k.begin, .tuple (k.steps.map fun r => .tuple (r.map .int))]) := by
  simp [kD, D.py, D.pys, pys_sts]
theorem eq_crowd (k : Kd) (s : Sto) : eqT (.v (.tup [kD k])) (.v (.tup [])) s = some false := by
  have h := py_kd k
  have hd := dep_sts k.steps
  simp only [eqT, pyOf, D.py, h, D.pys, Option.map_some, Option.bind_some]
  have : PySem.SeqAt.shaped (.tuple [.tuple [.int k.many, .int k.begin, .tuple (k.steps.map fun r => .tuple (r.map .int))]]) = true := by
    simp only [PySem.SeqAt.shaped, PyData.canLay0, PyData.canLayAll0, PyData.depth, PyData.depthAll, lay_sts, Bool.true_and, Bool.and_true]
    exact decide_eq_true (by omega)
  rw [this]
  simp [PyData.eqv, PyData.eqvAll, PySem.SeqAt.shaped, PyData.canLay0, PyData.canLayAll0, PyData.depth, PyData.depthAll]
theorem eq_tt0 (s : Sto) : eqT (.v (.tup [])) (.v (.tup [])) s = some true := eq_sts0 [] s
/-! in -/
/-- the row that a value is -/
def rowOf : D → Option (List Int)
  | .tup ys => intsD ys
  | _ => none
theorem intsD_of : ∀ {ys : List D} {r : List Int}, intsD ys = some r → ys = r.map .int
  | [], r, h => by simp [intsD] at h; subst h; rfl
  | d :: ys, r, h => by
    cases d with
    | int i =>
      simp only [intsD, Option.map_eq_some_iff] at h
      obtain ⟨q, hq, rfl⟩ := h
      rw [intsD_of hq]
      rfl
    | _ => simp [intsD] at h
theorem rowOf_st (r : List Int) : rowOf (stD r) = some r := by simp [rowOf, stD, intsD_map]
def inMv (mv : List (List Int)) (d : D) : Bool :=
  match rowOf d with
  | some r => decide (r ∈ mv)
  | none => false
theorem inMv_st (mv : List (List Int)) (r : List Int) : inMv mv (stD r) = decide (r ∈ mv) := by simp [inMv, rowOf_st]
/-- a value that may be asked for -/
structure Odd (d : D) : Prop where
  p : pl d = true
  y : ∃ p, D.py d = some p ∧ PySem.SeqAt.shaped p = true
def isBl : D → Bool
  | .bl _ => true
  | _ => false
theorem any_eqv (mv : List (List Int)) (q : PyData) : ((mv.map fun r => PyData.tuple (r.map .int)).any fun z => PyData.eqv z q) = mv.any fun r => PyData.eqv (.tuple (r.map .int)) q := by
  induction mv with
  | nil => rfl
  | cons r mv ih => simp [ih]
/-- a value near a row: either it is one, or it is not, or a bool stands in it -/
theorem eqvAll_odd : ∀ (r : List Int) (ys : List D) (qs : List PyData), D.pys ys = some qs → PyData.eqvAll (r.map .int) qs = true → (∃ y ∈ ys, isBl y = true) ∨ intsD ys = some r
  | [], [], qs, _, _ => .inr rfl
  | [], y :: ys, qs, h, e => by
    simp only [D.pys, Option.bind_eq_some_iff, Option.map_eq_some_iff] at h
    obtain ⟨d, _, ds, _, rfl⟩ := h
    simp [PyData.eqvAll] at e
  | i :: r, [], qs, h, e => by
    simp only [D.pys, Option.some.injEq] at h
    subst h
    simp [PyData.eqvAll] at e
  | i :: r, y :: ys, qs, h, e => by
    simp only [D.pys, Option.bind_eq_some_iff, Option.map_eq_some_iff] at h
    obtain ⟨d, hd, ds, hds, rfl⟩ := h
    simp only [List.map_cons, PyData.eqvAll, Bool.and_eq_true] at e
    rcases eqvAll_odd r ys ds hds e.2 with ⟨y', hy, hb⟩ | hi
    · exact .inl ⟨y', by simp [hy], hb⟩
    · cases y with
      | bl b => exact .inl ⟨.bl b, by simp, rfl⟩
      | int j =>
        simp only [D.py, Option.some.injEq] at hd
        subst hd
        have e1 := e.1
        simp only [PyData.eqv, beq_iff_eq] at e1
        subst e1
        exact .inr (by simp [intsD, hi])
      | non => simp only [D.py, Option.some.injEq] at hd; subst hd; simp [PyData.eqv] at e
      | str x => simp only [D.py, Option.some.injEq] at hd; subst hd; simp [PyData.eqv] at e
      | tup xs =>
        simp only [D.py, Option.map_eq_some_iff] at hd
        obtain ⟨_, _, rfl⟩ := hd
        simp [PyData.eqv] at e
      | fro xs =>
        simp only [D.py, Option.map_eq_some_iff] at hd
        obtain ⟨_, _, rfl⟩ := hd
        simp [PyData.eqv] at e
      | loc _ => simp [D.py] at hd
      | ty _ => simp [D.py] at hd
      | gl _ => simp [D.py] at hd
theorem ints_nobl {ys : List D} {r : List Int} (h : intsD ys = some r) : ys.any isBl = false := by
  rw [intsD_of h]
  simp [isBl]
/-- x in rows, where x is a tuple; and no bool in x -/
theorem in_mv (mv : List (List Int)) (M : D) (hM : M = .fro (mv.map stD) ∨ M = .tup (mv.map stD)) (ys : List D) (h : Odd (.tup ys)) (s : Sto) :
    ∃ b, inT (.v (.tup ys)) (.v M) s = some b ∧ (b && !(ys.any isBl)) = inMv mv (.tup ys) := by
  obtain ⟨q, hq, hs⟩ := h.y
  have hq' := hq
  simp only [D.py, Option.map_eq_some_iff] at hq
  obtain ⟨qs, hqs, rfl⟩ := hq
  have e : inT (.v (.tup ys)) (.v M) s = some (mv.any fun r => PyData.eqv (.tuple (r.map .int)) (.tuple qs)) := by
    have hd : dicAt (.v M) (.v (.tup ys)) s = none := by rcases hM with rfl | rfl <;> rfl
    have hx : seqOf (.v M) s = some (mv.map stD) := by rcases hM with rfl | rfl <;> rfl
    unfold inT
    rw [hd, hx]
    simp only [flatT, flat, Bool.false_and, Bool.false_eq_true, if_false, pyOf, hq', Option.bind_some, pys_sts, hs, sh_stl, Bool.and_self, if_true, any_eqv]
  refine ⟨_, e, ?_⟩
  by_cases hb : ys.any isBl = true
  · have hi : intsD ys = none := by
      cases hi : intsD ys with
      | none => rfl
      | some r => rw [ints_nobl hi] at hb; simp at hb
    simp [hb, inMv, rowOf, hi]
  · have hb' : ys.any isBl = false := by simpa using hb
    rw [hb']
    simp only [Bool.not_false, Bool.and_true, inMv, rowOf]
    cases hi : intsD ys with
    | some r =>
      have := intsD_of hi
      subst this
      rw [pys_ints] at hqs
      simp only [Option.some.injEq] at hqs
      subst hqs
      simp only [eqv_st]
      rw [Bool.eq_iff_iff]
      simp
    | none =>
      simp only [List.any_eq_false]
      intro r _ hr
      have hr' : PyData.eqvAll (r.map .int) qs = true := by simpa [PyData.eqv] using hr
      rcases eqvAll_odd r ys qs hqs hr' with ⟨y, hy, hyb⟩ | h2
      · exact hb (List.any_eq_true.mpr ⟨y, hy, hyb⟩)
      · rw [hi] at h2; cases h2
theorem odd_st (r : List Int) : Odd (stD r) := ⟨st_pl r, _, py_st r, sh_st r⟩
theorem in_st (mv : List (List Int)) (r : List Int) (M : D) (hM : M = .fro (mv.map stD) ∨ M = .tup (mv.map stD)) (s : Sto) : inT (.v (stD r)) (.v M) s = some (decide (r ∈ mv)) := by
  obtain ⟨b, e1, e2⟩ := in_mv mv M hM (r.map .int) (odd_st r) s
  have hn : (r.map D.int).any isBl = false := ints_nobl (intsD_map r)
  rw [hn] at e2
  have e3 := inMv_st mv r
  simp only [stD] at e3 ⊢
  rw [e3] at e2
  simp at e2
  rw [e1, e2]
/-! ### a team in a store -/
structure TeamAt (s : Sto) (n : Nat) (st start : Int) (ks cs : List Kd) : Prop where
  here : s[n]? = some (.ins "Team" (teamF st start ((ks ++ cs).map kD) ks.length (ks.map kD) (cs.map kD) ((List.range' (n + 1) (ks ++ cs).length).map .loc)))
  fr : ∀ (i : Nat) (kd : Kd), (ks ++ cs)[i]? = some kd → ∃ kvs, s[n + 1 + i]? = some (.dic true kvs) ∧ FI kvs kd.steps
section
variable {s : Sto} {n : Nat} {st start : Int} {ks cs : List Kd}
theorem TeamAt.app (h : TeamAt s n st start ks cs) (x : Sto) : TeamAt (s ++ x) n st start ks cs := by
  have g : ∀ (i : Nat) (o : O), s[i]? = some o → (s ++ x)[i]? = some o := fun i o e => by
    rw [List.getElem?_append_left (List.getElem?_eq_some_iff.mp e).1]
    exact e
  exact ⟨g _ _ h.here, fun i kd hi => by
    obtain ⟨kvs, e, f⟩ := h.fr i kd hi
    exact ⟨kvs, g _ _ e, f⟩⟩
theorem TeamAt.wl {w w' : Int × Int × Int} {r : Sto} (h : TeamAt (Wl w r) (n + 1) st start ks cs) : TeamAt (Wl w' r) (n + 1) st start ks cs := by
  refine ⟨h.here, fun i kd hi => ?_⟩
  obtain ⟨kvs, e, f⟩ := h.fr i kd hi
  have : n + 1 + 1 + i = (n + 1 + i) + 1 := by omega
  rw [this] at e ⊢
  exact ⟨kvs, e, f⟩
theorem TeamAt.made {kvss : List (List (List Ky × D))} (hl : kvss.length = (ks ++ cs).length) (hF : ∀ (i : Nat) (kd : Kd) (kvs : List (List Ky × D)), (ks ++ cs)[i]? = some kd → kvss[i]? = some kvs → FI kvs kd.steps) :
    TeamAt (s ++ .ins "Team" (teamF st start ((ks ++ cs).map kD) ks.length (ks.map kD) (cs.map kD) ((List.range' (s.length + 1) (ks ++ cs).length).map .loc)) :: kvss.map (.dic true)) s.length st start ks cs := by
  refine ⟨by simp, fun i kd hi => ?_⟩
  have hlt := (List.getElem?_eq_some_iff.mp hi).1
  have hk : kvss[i]? = some (kvss[i]'(by omega)) := List.getElem?_eq_getElem _
  refine ⟨kvss[i]'(by omega), ?_, hF i kd _ hi hk⟩
  rw [List.getElem?_append_right (by omega)]
  have : s.length + 1 + i - s.length = i + 1 := by omega
  rw [this, List.getElem?_cons_succ, List.getElem?_map, hk]
  rfl
theorem TeamAt.fld (h : TeamAt s n st start ks cs) (f : PySem.Str) : fldAt (.v (.loc n)) f s = fget (teamF st start ((ks ++ cs).map kD) ks.length (ks.map kD) (cs.map kD) ((List.range' (n + 1) (ks ++ cs).length).map .loc)) f := by
  simp only [fldAt, h.here]
theorem TeamAt.f_states (h : TeamAt s n st start ks cs) : fldAt (.v (.loc n)) "states" s = some (.int st) := by rw [h.fld, t_states]
theorem TeamAt.f_start (h : TeamAt s n st start ks cs) : fldAt (.v (.loc n)) "start" s = some (.int start) := by rw [h.fld, t_start]
theorem TeamAt.f_kinds (h : TeamAt s n st start ks cs) : fldAt (.v (.loc n)) "kinds" s = some (.tup ((ks ++ cs).map kD)) := by rw [h.fld, t_kinds]
theorem TeamAt.f_alone (h : TeamAt s n st start ks cs) : fldAt (.v (.loc n)) "alone" s = some (.int ks.length) := by rw [h.fld, t_alone]
theorem TeamAt.f_singles (h : TeamAt s n st start ks cs) : fldAt (.v (.loc n)) "singles" s = some (.tup (ks.map kD)) := by rw [h.fld, t_singles]
theorem TeamAt.f_crowds (h : TeamAt s n st start ks cs) : fldAt (.v (.loc n)) "crowds" s = some (.tup (cs.map kD)) := by rw [h.fld, t_crowds]
theorem TeamAt.f_froms (h : TeamAt s n st start ks cs) : fldAt (.v (.loc n)) "froms" s = some (.tup ((List.range' (n + 1) (ks ++ cs).length).map .loc)) := by rw [h.fld, t_froms]
end
section
variable {tb : Tab} {wf : Nat}
theorem moves_from (T : H_moves_from tb) (k : Nat) {s : Sto} {n : Nat} {st start : Int} {ks cs : List Kd} (h : TeamAt s n st start ks cs) {i : Nat} {kd : Kd} (hi : (ks ++ cs)[i]? = some kd) (a l : Int) :
    run tb wf (k+1) "moves_from" [.loc n, .int a, .int (i : Nat), .int l] s = .ok (.v (.tup ((lk kd.steps a l).map stD))) s := by
  obtain ⟨kvs, e, f⟩ := h.fr i kd hi
  have e1 := h.f_froms
  have hlt := (List.getElem?_eq_some_iff.mp hi).1
  have e2 : L2.atI ((List.range' (n + 1) (ks ++ cs).length).map D.loc) ((i : Nat) : Int) = some (.loc (n + 1 + i)) := L2.atI_nat (by
    rw [List.getElem?_map, List.getElem?_range' hlt]
    simp)
  generalize (List.range' (n + 1) (ks ++ cs).length).map D.loc = L at e1 e2
  have e3 : isDic (.v (.loc (n + 1 + i))) s = true := by simp [isDic, e]
  have e4 : dicAtT (.v (.loc (n + 1 + i))) [.int a, .int l] s = some (dval kvs [.inl a, .inl l]) := by
    have hk : dkeys [.int a, .int l] = some [.inl a, .inl l] := rfl
    simp only [dicAtT, e, hk, Option.map_some]
  have e5 := f a l
  have ht := (Kp.self s).n (d := .tup ((lk kd.steps a l).map stD)) (pl_under _ (by simp [pl, st_pls]))
  have l2 : 2 ≤ LIM := by decide
  generalize (lk kd.steps a l).map stD = X at *
  generalize ((i : Nat) : Int) = ii at *
  rw [run, T.moves_from]
  simp [e_var, e_int, e_bl, e_non, e_str, e_tyn, e_con, e_bin, e_neg, e_cmp, e_chain, e_and, e_or, e_not, e_ite, e_tup, e_lst, e_idx, e_slc, e_dnewT, e_dgetT, e_fz, e_attr, e_isi, e_sset, e_new, e_call, e_bi, e_heard2, e_app, e_me, es_nil, es_cons, ts_nil, ts_cons, eo_none, eo_some, ec_none, ec_some, i_seq, i_rng, i_zip, i_enum, s_asg, s_par2, s_asgLc, s_asgLcF, s_put, s_putT, s_sat, s_ite, s_ret, s_ret0, s_raise, s_expr, ss_nil, ss_cons, Fl.then, Fl.res, Fn.fill, cmpT, f_moves_from, e1, e2, e3, e4, e5, l2, ht]
theorem need_ok (T : H_need_singles tb) (k : Nat) {s : Sto} {n : Nat} {st start : Int} {ks : List Kd} (h : TeamAt s n st start ks []) : run tb wf (k+1) "need_singles" [.loc n] s = .ok (.v .non) s := by
  have e1 := h.f_crowds
  simp only [List.map_nil] at e1
  have e2 := eq_tt0 s
  have ht := (Kp.self s).n (d := .non) rfl
  rw [run, T.need_singles]
  simp [e_var, e_int, e_bl, e_non, e_str, e_tyn, e_con, e_bin, e_neg, e_cmp, e_chain, e_and, e_or, e_not, e_ite, e_tup, e_lst, e_idx, e_slc, e_dnewT, e_dgetT, e_fz, e_attr, e_isi, e_sset, e_new, e_call, e_bi, e_heard2, e_app, e_me, es_nil, es_cons, ts_nil, ts_cons, eo_none, eo_some, ec_none, ec_some, i_seq, i_rng, i_zip, i_enum, s_asg, s_par2, s_asgLc, s_asgLcF, s_put, s_putT, s_sat, s_ite, s_ret, s_ret0, s_raise, s_expr, ss_nil, ss_cons, Fl.then, Fl.res, Fn.fill, cmpT, f_need_singles, e1, e2, ht]
theorem res_ex {s s' : Sto} {ρ : Env} {x : Xc} (h : Kp s s' s) (u : D.under 0 x.val = true) : Fl.res s (.ex ρ x s') = .ex x s := by
  simp [Fl.res, h.k, h.t, under_le (Nat.zero_le _) _ u]
theorem need_no (T : H_need_singles tb) (k : Nat) {s : Sto} {n : Nat} {st start : Int} {ks : List Kd} {c : Kd} (h : TeamAt s n st start ks [c]) : run tb wf (k+1) "need_singles" [.loc n] s = .ex ⟨"Refused", .str "crowds"⟩ s := by
  have e1 := h.f_crowds
  simp only [List.map_cons, List.map_nil] at e1
  have e2 := eq_crowd c s
  have hr := fun ρ => res_ex (ρ := ρ) (x := ⟨"Refused", .str "crowds"⟩) (Kp.self s) rfl
  simp only [Fl.res] at hr
  rw [run, T.need_singles]
  generalize kD c = C at *
  simp [e_var, e_int, e_bl, e_non, e_str, e_tyn, e_con, e_bin, e_neg, e_cmp, e_chain, e_and, e_or, e_not, e_ite, e_tup, e_lst, e_idx, e_slc, e_dnewT, e_dgetT, e_fz, e_attr, e_isi, e_sset, e_new, e_call, e_bi, e_heard2, e_app, e_me, es_nil, es_cons, ts_nil, ts_cons, eo_none, eo_some, ec_none, ec_some, i_seq, i_rng, i_zip, i_enum, s_asg, s_par2, s_asgLc, s_asgLcF, s_put, s_putT, s_sat, s_ite, s_ret, s_ret0, s_raise, s_expr, ss_nil, ss_cons, Fl.then, Fl.res, Fn.fill, cmpT, f_need_singles, e1, e2, hr]
end
end Fam
end
section
set_option Elab.async false
set_option linter.all false
set_option maxRecDepth 100000
set_option maxHeartbeats 1000000
set_option linter.unusedSimpArgs false
/-! Ml: situations and moves of a team without crowds. -/
namespace Fam
open Fy
/-- the moves at state a and locals ls, from member i on -/
def mvF (a : Int) : Nat → List Kd → List Int → List (List Int)
  | i, kd :: ks, l :: ls => (lk kd.steps a l).map (fun r => ((i : Nat) : Int) :: r) ++ mvF a (i + 1) ks ls
  | _, _, _ => []
def sitD (a : Int) (ls : List Int) : D := .tup [.int a, .tup (ls.map .int)]
structure SitOk (st : Int) (ks : List Kd) (a : Int) (ls : List Int) : Prop where
  a0 : 0 ≤ a
  a1 : a < st
  len : ls.length = ks.length
  ok : ∀ (i : Nat) (kd : Kd) (l : Int), ks[i]? = some kd → ls[i]? = some l → 0 ≤ l ∧ l < kd.many
theorem lk_mem {st : Int} {kd : Kd} (h : KOk st kd) {a l : Int} {q : List Int} (hq : q ∈ lk kd.steps a l) : ∃ t m : Int, q = [t, m] ∧ (0 ≤ t ∧ t < st) ∧ (0 ≤ m ∧ m < kd.many) := by
  simp only [lk, List.mem_map, List.mem_filter] at hq
  obtain ⟨r, ⟨hr, _⟩, rfl⟩ := hq
  obtain ⟨s', l', t, m, rfl, _, _, h3, h4⟩ := h.ok r hr
  exact ⟨t, m, rfl, h3, h4⟩
theorem lk_len {st : Int} {kd : Kd} (h : KOk st kd) (a l : Int) : (lk kd.steps a l).length ≤ 63 := by
  have := h.len
  have h2 : (lk kd.steps a l).length ≤ kd.steps.length := by
    simp only [lk, List.length_map]
    exact List.length_filter_le _ _
  omega
theorem mv_mem (a : Int) (r : List Int) : ∀ (i : Nat) (ks : List Kd) (ls : List Int), r ∈ mvF a i ks ls ↔ ∃ (j : Nat) (kd : Kd) (l : Int) (q : List Int), ks[j]? = some kd ∧ ls[j]? = some l ∧ q ∈ lk kd.steps a l ∧ r = (((i + j : Nat)) : Int) :: q
  | i, [], ls => by simp [mvF]
  | i, kd :: ks, [] => by simp [mvF]
  | i, kd :: ks, l :: ls => by
    rw [mvF, List.mem_append, mv_mem a r (i + 1) ks ls]
    constructor
    · rintro (h | ⟨j, kd', l', q, h1, h2, h3, h4⟩)
      · obtain ⟨q, hq, rfl⟩ := List.mem_map.mp h
        exact ⟨0, kd, l, q, rfl, rfl, hq, rfl⟩
      · exact ⟨j + 1, kd', l', q, by simpa using h1, by simpa using h2, h3, by rw [h4]; congr 2; omega⟩
    · rintro ⟨j, kd', l', q, h1, h2, h3, h4⟩
      cases j with
      | zero =>
        simp at h1 h2
        subst h1 h2
        exact .inl (List.mem_map.mpr ⟨q, h3, by rw [h4]; rfl⟩)
      | succ j => exact .inr ⟨j, kd', l', q, by simpa using h1, by simpa using h2, h3, by rw [h4]; congr 2; omega⟩
theorem mv_len {st : Int} (a : Int) : ∀ (i : Nat) (ks : List Kd) (ls : List Int), (∀ kd ∈ ks, KOk st kd) → (mvF a i ks ls).length ≤ 63 * ks.length
  | i, [], ls, _ => by simp [mvF]
  | i, kd :: ks, [], _ => by simp [mvF]
  | i, kd :: ks, l :: ls, h => by
    have h1 := lk_len (h kd (by simp)) a l
    have h2 := mv_len a (i + 1) ks ls fun kd hk => h kd (by simp [hk])
    simp only [mvF, List.length_append, List.length_map, List.length_cons]
    omega
theorem sit_pl (a : Int) (ls : List Int) : pl (sitD a ls) = true := by simp [sitD, pl, pls, pls_ints]
theorem atI_map {α : Type} {xs : List α} {f : α → D} {i : Nat} {x : α} (h : xs[i]? = some x) : L2.atI (xs.map f) ((i : Nat) : Int) = some (f x) := L2.atI_nat (by simp [List.getElem?_map, h])
def sitB (st : Int) (ks : List Kd) : D → Bool
  | .tup [x, y] => num (some (st - 1)) x && rowB (ks.map fun kd => kd.many - 1) y
  | _ => false
def restB : D → Bool
  | .tup [] => true
  | _ => false
section
variable {tb : Tab} {wf : Nat}
theorem opening (T : H_opening tb) (k : Nat) {s : Sto} {n : Nat} {st start : Int} {ks : List Kd} (h : TeamAt s n st start ks []) (hl : ks.length ≤ 1000) : run tb wf (k+2) "opening" [.loc n] s = .ok (.v (sitD start (ks.map (·.begin)))) s := by
  have e1 := need_ok (wf := wf) T.toH_need_singles k h
  have e2 := h.f_start
  have e3 := h.f_singles
  have hc : evE (run tb wf (k+1)) (.lc [("kind", 1)] (.nm 1) (.seq (.attr (.var 0) "singles")) .none (.idx (.var 1) (.int 1))) [some (.loc n), none] s = .ok (.l (ks.map fun kd => .int kd.begin)) s := by
    rw [e_lc (I := ⟨ks.map kD, []⟩) (s' := s) (by simp [e_var, e_int, e_bl, e_non, e_str, e_tyn, e_con, e_bin, e_neg, e_cmp, e_chain, e_and, e_or, e_not, e_ite, e_tup, e_lst, e_idx, e_slc, e_dnewT, e_dgetT, e_fz, e_attr, e_isi, e_sset, e_new, e_call, e_bi, e_heard2, e_app, e_me, es_nil, es_cons, ts_nil, ts_cons, eo_none, eo_some, ec_none, ec_some, i_seq, i_rng, i_zip, i_enum, s_asg, s_par2, s_asgLc, s_asgLcF, s_put, s_putT, s_sat, s_ite, s_ret, s_ret0, s_raise, s_expr, ss_nil, ss_cons, Fl.then, Fl.res, Fn.fill, cmpT, e3])]
    exact lc_map rfl ks (fun kd hk => by simp [e_var, e_int, e_bl, e_non, e_str, e_tyn, e_con, e_bin, e_neg, e_cmp, e_chain, e_and, e_or, e_not, e_ite, e_tup, e_lst, e_idx, e_slc, e_dnewT, e_dgetT, e_fz, e_attr, e_isi, e_sset, e_new, e_call, e_bi, e_heard2, e_app, e_me, es_nil, es_cons, ts_nil, ts_cons, eo_none, eo_some, ec_none, ec_some, i_seq, i_rng, i_zip, i_enum, s_asg, s_par2, s_asgLc, s_asgLcF, s_put, s_putT, s_sat, s_ite, s_ret, s_ret0, s_raise, s_expr, ss_nil, ss_cons, Fl.then, Fl.res, Fn.fill, cmpT, lcF, wipeE, kD]) (LIM_le (by omega))
  have l2 : 2 ≤ LIM := by decide
  have ht := (Kp.self s).n (pl_under _ (sit_pl start (ks.map (·.begin))))
  simp only [sitD, List.map_map, Function.comp_def] at ht ⊢
  rw [run, T.opening]
  simp [e_var, e_int, e_bl, e_non, e_str, e_tyn, e_con, e_bin, e_neg, e_cmp, e_chain, e_and, e_or, e_not, e_ite, e_tup, e_lst, e_idx, e_slc, e_dnewT, e_dgetT, e_fz, e_attr, e_isi, e_sset, e_new, e_call, e_bi, e_heard2, e_app, e_me, es_nil, es_cons, ts_nil, ts_cons, eo_none, eo_some, ec_none, ec_some, i_seq, i_rng, i_zip, i_enum, s_asg, s_par2, s_asgLc, s_asgLcF, s_put, s_putT, s_sat, s_ite, s_ret, s_ret0, s_raise, s_expr, ss_nil, ss_cons, Fl.then, Fl.res, Fn.fill, cmpT, f_opening, e1, e2, hc, l2, ht]
theorem is_situation (T : H_is_situation tb) (k : Nat) {s : Sto} {n : Nat} {st start : Int} {ks : List Kd} (h : TeamAt s n st start ks []) (hl : ks.length ≤ 1000) {d : D} (hd : pl d = true) : run tb wf (k+4) "is_situation" [.loc n, d] s = .ok (.v (.bl (sitB st ks d))) s := by
  have e1 := need_ok (wf := wf) T.toH_need_singles (k+2) h
  have e2 := h.f_states
  have e3 := h.f_singles
  have ht := fun b => (Kp.self s).n (d := .bl b) rfl
  have hc : evE (run tb wf (k+3)) (.lc [("kind", 2)] (.nm 2) (.seq (.attr (.var 0) "singles")) .none (.bin .sub (.idx (.var 2) (.int 0)) (.int 1))) [some (.loc n), some d, none] s = .ok (.l ((ks.map fun kd => kd.many - 1).map .int)) s := by
    rw [e_lc (I := ⟨ks.map kD, []⟩) (s' := s) (by simp [e_var, e_int, e_bl, e_non, e_str, e_tyn, e_con, e_bin, e_neg, e_cmp, e_chain, e_and, e_or, e_not, e_ite, e_tup, e_lst, e_idx, e_slc, e_dnewT, e_dgetT, e_fz, e_attr, e_isi, e_sset, e_new, e_call, e_bi, e_heard2, e_app, e_me, es_nil, es_cons, ts_nil, ts_cons, eo_none, eo_some, ec_none, ec_some, i_seq, i_rng, i_zip, i_enum, s_asg, s_par2, s_asgLc, s_asgLcF, s_put, s_putT, s_sat, s_ite, s_ret, s_ret0, s_raise, s_expr, ss_nil, ss_cons, Fl.then, Fl.res, Fn.fill, cmpT, e3]), List.map_map]
    exact lc_map rfl ks (fun kd hk => by simp [e_var, e_int, e_bl, e_non, e_str, e_tyn, e_con, e_bin, e_neg, e_cmp, e_chain, e_and, e_or, e_not, e_ite, e_tup, e_lst, e_idx, e_slc, e_dnewT, e_dgetT, e_fz, e_attr, e_isi, e_sset, e_new, e_call, e_bi, e_heard2, e_app, e_me, es_nil, es_cons, ts_nil, ts_cons, eo_none, eo_some, ec_none, ec_some, i_seq, i_rng, i_zip, i_enum, s_asg, s_par2, s_asgLc, s_asgLcF, s_put, s_putT, s_sat, s_ite, s_ret, s_ret0, s_raise, s_expr, ss_nil, ss_cons, Fl.then, Fl.res, Fn.fill, cmpT, lcF, wipeE, kD]) (LIM_le (by omega))
  rw [run, T.is_situation]
  cases d with
  | tup xs =>
    match xs, hd with
    | [x, y], hd =>
      have hx : pl x = true := by simp [pl, pls] at hd; exact hd.1
      have hy : pl y = true := by simp [pl, pls] at hd; exact hd.2
      have e4 := is_number2 (wf := wf) T.toH_is_number (k+1) s (d := x) (j := st - 1) hx
      have e5 := is_row (wf := wf) T.toH_is_row k s (ks.map fun kd => kd.many - 1) hy (.inr rfl) (by simp; omega)
      generalize hM : (ks.map fun kd => kd.many - 1) = ms at *
      generalize ms.map D.int = M at *
      cases hb : num (some (st - 1)) x <;> simp [e_var, e_int, e_bl, e_non, e_str, e_tyn, e_con, e_bin, e_neg, e_cmp, e_chain, e_and, e_or, e_not, e_ite, e_tup, e_lst, e_idx, e_slc, e_dnewT, e_dgetT, e_fz, e_attr, e_isi, e_sset, e_new, e_call, e_bi, e_heard2, e_app, e_me, es_nil, es_cons, ts_nil, ts_cons, eo_none, eo_some, ec_none, ec_some, i_seq, i_rng, i_zip, i_enum, s_asg, s_par2, s_asgLc, s_asgLcF, s_put, s_putT, s_sat, s_ite, s_ret, s_ret0, s_raise, s_expr, ss_nil, ss_cons, Fl.then, Fl.res, Fn.fill, cmpT, f_is_situation, kinds, isSub, e1, e2, e4, e5, hb, hc, ht, sitB, Fy.T.froz, hM]
    | [], _ => simp [e_var, e_int, e_bl, e_non, e_str, e_tyn, e_con, e_bin, e_neg, e_cmp, e_chain, e_and, e_or, e_not, e_ite, e_tup, e_lst, e_idx, e_slc, e_dnewT, e_dgetT, e_fz, e_attr, e_isi, e_sset, e_new, e_call, e_bi, e_heard2, e_app, e_me, es_nil, es_cons, ts_nil, ts_cons, eo_none, eo_some, ec_none, ec_some, i_seq, i_rng, i_zip, i_enum, s_asg, s_par2, s_asgLc, s_asgLcF, s_put, s_putT, s_sat, s_ite, s_ret, s_ret0, s_raise, s_expr, ss_nil, ss_cons, Fl.then, Fl.res, Fn.fill, cmpT, f_is_situation, kinds, isSub, e1, ht, sitB]
    | [x], _ => simp [e_var, e_int, e_bl, e_non, e_str, e_tyn, e_con, e_bin, e_neg, e_cmp, e_chain, e_and, e_or, e_not, e_ite, e_tup, e_lst, e_idx, e_slc, e_dnewT, e_dgetT, e_fz, e_attr, e_isi, e_sset, e_new, e_call, e_bi, e_heard2, e_app, e_me, es_nil, es_cons, ts_nil, ts_cons, eo_none, eo_some, ec_none, ec_some, i_seq, i_rng, i_zip, i_enum, s_asg, s_par2, s_asgLc, s_asgLcF, s_put, s_putT, s_sat, s_ite, s_ret, s_ret0, s_raise, s_expr, ss_nil, ss_cons, Fl.then, Fl.res, Fn.fill, cmpT, f_is_situation, kinds, isSub, e1, ht, sitB]
    | x :: y :: z :: r, _ =>
      have hn : ¬ ((r.length : Int) + 1 + 1 + 1 = 2) := by omega
      simp [e_var, e_int, e_bl, e_non, e_str, e_tyn, e_con, e_bin, e_neg, e_cmp, e_chain, e_and, e_or, e_not, e_ite, e_tup, e_lst, e_idx, e_slc, e_dnewT, e_dgetT, e_fz, e_attr, e_isi, e_sset, e_new, e_call, e_bi, e_heard2, e_app, e_me, es_nil, es_cons, ts_nil, ts_cons, eo_none, eo_some, ec_none, ec_some, i_seq, i_rng, i_zip, i_enum, s_asg, s_par2, s_asgLc, s_asgLcF, s_put, s_putT, s_sat, s_ite, s_ret, s_ret0, s_raise, s_expr, ss_nil, ss_cons, Fl.then, Fl.res, Fn.fill, cmpT, f_is_situation, kinds, isSub, e1, ht, sitB, hn]
  | _ => first | (simp [pl] at hd; done) | simp [e_var, e_int, e_bl, e_non, e_str, e_tyn, e_con, e_bin, e_neg, e_cmp, e_chain, e_and, e_or, e_not, e_ite, e_tup, e_lst, e_idx, e_slc, e_dnewT, e_dgetT, e_fz, e_attr, e_isi, e_sset, e_new, e_call, e_bi, e_heard2, e_app, e_me, es_nil, es_cons, ts_nil, ts_cons, eo_none, eo_some, ec_none, ec_some, i_seq, i_rng, i_zip, i_enum, s_asg, s_par2, s_asgLc, s_asgLcF, s_put, s_putT, s_sat, s_ite, s_ret, s_ret0, s_raise, s_expr, ss_nil, ss_cons, Fl.then, Fl.res, Fn.fill, cmpT, f_is_situation, kinds, isSub, e1, ht, sitB]
theorem is_rest (T : H_is_rest tb) (k : Nat) (s : Sto) {d : D} (hd : pl d = true) : run tb wf (k+1) "is_rest" [d] s = .ok (.v (.bl (restB d))) s := by
  have ht := fun b => (Kp.self s).n (d := .bl b) rfl
  rw [run, T.is_rest]
  cases d with
  | tup xs =>
    cases xs with
    | nil => simp [e_var, e_int, e_bl, e_non, e_str, e_tyn, e_con, e_bin, e_neg, e_cmp, e_chain, e_and, e_or, e_not, e_ite, e_tup, e_lst, e_idx, e_slc, e_dnewT, e_dgetT, e_fz, e_attr, e_isi, e_sset, e_new, e_call, e_bi, e_heard2, e_app, e_me, es_nil, es_cons, ts_nil, ts_cons, eo_none, eo_some, ec_none, ec_some, i_seq, i_rng, i_zip, i_enum, s_asg, s_par2, s_asgLc, s_asgLcF, s_put, s_putT, s_sat, s_ite, s_ret, s_ret0, s_raise, s_expr, ss_nil, ss_cons, Fl.then, Fl.res, Fn.fill, cmpT, f_is_rest, kinds, isSub, ht, restB]
    | cons x xs =>
      have hn : ¬ ((xs.length : Int) + 1 = 0) := by omega
      simp [e_var, e_int, e_bl, e_non, e_str, e_tyn, e_con, e_bin, e_neg, e_cmp, e_chain, e_and, e_or, e_not, e_ite, e_tup, e_lst, e_idx, e_slc, e_dnewT, e_dgetT, e_fz, e_attr, e_isi, e_sset, e_new, e_call, e_bi, e_heard2, e_app, e_me, es_nil, es_cons, ts_nil, ts_cons, eo_none, eo_some, ec_none, ec_some, i_seq, i_rng, i_zip, i_enum, s_asg, s_par2, s_asgLc, s_asgLcF, s_put, s_putT, s_sat, s_ite, s_ret, s_ret0, s_raise, s_expr, ss_nil, ss_cons, Fl.then, Fl.res, Fn.fill, cmpT, f_is_rest, kinds, isSub, ht, restB, hn]
  | _ => first | (simp [pl] at hd; done) | simp [e_var, e_int, e_bl, e_non, e_str, e_tyn, e_con, e_bin, e_neg, e_cmp, e_chain, e_and, e_or, e_not, e_ite, e_tup, e_lst, e_idx, e_slc, e_dnewT, e_dgetT, e_fz, e_attr, e_isi, e_sset, e_new, e_call, e_bi, e_heard2, e_app, e_me, es_nil, es_cons, ts_nil, ts_cons, eo_none, eo_some, ec_none, ec_some, i_seq, i_rng, i_zip, i_enum, s_asg, s_par2, s_asgLc, s_asgLcF, s_put, s_putT, s_sat, s_ite, s_ret, s_ret0, s_raise, s_expr, ss_nil, ss_cons, Fl.then, Fl.res, Fn.fill, cmpT, f_is_rest, kinds, isSub, ht, restB]
/-! ### all moves -/
def maB : Ss := forB (nth f_moves_at.body 2)
def enTg (i j : Nat) : Tg := .tp (.cons (.nm i) (.cons (.nm j) .nil))
abbrev maE (n : Nat) (d : D) (m : Nat) (o3 o4 : Option D) : Env := [some (.loc n), some d, some (.loc m), o3, o4, none, none]
theorem ma_loop (T : H_moves_from tb) (k : Nat) {s : Sto} {n : Nat} {st start : Int} {ks : List Kd} (h : TeamAt s n st start ks []) (hk : ∀ kd ∈ ks, KOk st kd) (a : Int) (ls0 : List Int) :
    ∀ (ls : List Int) (ks' : List Kd) (i0 : Nat) (acc : List (List Int)) (o3 o4 : Option D), (∀ (j : Nat) (kd : Kd), ks'[j]? = some kd → ks[i0 + j]? = some kd) → ls.length = ks'.length → acc.length + 63 * ls.length ≤ 1000 →
      ∃ q3 q4 : Option D, forLoop (forF (enTg 3 4) (evSs (run tb wf (k+1)) wf maB)) [] (((ls.map D.int).zipIdx i0).map fun p => .tup [.int (p.2 : Nat), p.1]) (maE n (sitD a ls0) s.length o3 o4) (s ++ [.lst (acc.map stD)]) =
        .nx (maE n (sitD a ls0) s.length q3 q4) (s ++ [.lst ((acc ++ mvF a i0 ks' ls).map stD)])
  | [], ks', i0, acc, o3, o4, _, hl, _ => ⟨o3, o4, by cases ks' <;> simp [forLoop, stands, mvF]⟩
  | l :: ls, [], i0, acc, o3, o4, _, hl, _ => by simp at hl
  | l :: ls, kd :: ks', i0, acc, o3, o4, hks, hl, hb => by
    simp only [List.length_cons] at hl hb
    have hi : ks[i0]? = some kd := hks 0 kd rfl
    have hkd : KOk st kd := hk kd (List.mem_of_getElem? hi)
    have e1 := moves_from (wf := wf) T k (h.app [.lst (acc.map stD)]) (i := i0) (kd := kd) (by simpa using hi) a l
    have hlk := lk_len hkd a l
    obtain ⟨q3, q4, e2⟩ := ma_loop T k h hk a ls0 ls ks' (i0 + 1) (acc ++ (lk kd.steps a l).map fun r => ((i0 : Nat) : Int) :: r) (some (.int (i0 : Nat))) (some (.int l)) (fun j kd' hj => by have := hks (j + 1) kd' (by simpa using hj); rw [← this]; congr 1; omega) (by omega) (by simp; omega)
    refine ⟨q3, q4, ?_⟩
    have hc : evE (run tb wf (k+1)) (.lc [("t", 5), ("m", 6)] (.tp (.cons (.nm 5) (.cons (.nm 6) .nil))) (.seq (.call "moves_from" (.cons (.var 0) (.cons (.idx (.var 1) (.int 0)) (.cons (.var 3) (.cons (.var 4) .nil)))))) .none (.tup (.cons (.var 3) (.cons (.var 5) (.cons (.var 6) .nil)))))
        (maE n (sitD a ls0) s.length (some (.int (i0 : Nat))) (some (.int l))) (s ++ [.lst (acc.map stD)]) = .ok (.l (((lk kd.steps a l).map fun r => ((i0 : Nat) : Int) :: r).map stD)) (s ++ [.lst (acc.map stD)]) := by
      rw [e_lc (I := ⟨(lk kd.steps a l).map stD, []⟩) (s' := s ++ [.lst (acc.map stD)]) (by
        generalize ((i0 : Nat) : Int) = ii at e1 ⊢
        simp [e_var, e_int, e_bl, e_non, e_str, e_tyn, e_con, e_bin, e_neg, e_cmp, e_chain, e_and, e_or, e_not, e_ite, e_tup, e_lst, e_idx, e_slc, e_dnewT, e_dgetT, e_fz, e_attr, e_isi, e_sset, e_new, e_call, e_bi, e_heard2, e_app, e_me, es_nil, es_cons, ts_nil, ts_cons, eo_none, eo_some, ec_none, ec_some, i_seq, i_rng, i_zip, i_enum, s_asg, s_par2, s_asgLc, s_asgLcF, s_put, s_putT, s_sat, s_ite, s_ret, s_ret0, s_raise, s_expr, ss_nil, ss_cons, Fl.then, Fl.res, Fn.fill, cmpT, maE, sitD, e1]), List.map_map]
      refine lc_map rfl _ (fun q hq => ?_) (LIM_le (by omega))
      obtain ⟨t, m, rfl, _, _⟩ := lk_mem hkd hq
      have l3 : 3 ≤ LIM := by decide
      generalize ((i0 : Nat) : Int) = ii at e1 ⊢
      simp [e_var, e_int, e_bl, e_non, e_str, e_tyn, e_con, e_bin, e_neg, e_cmp, e_chain, e_and, e_or, e_not, e_ite, e_tup, e_lst, e_idx, e_slc, e_dnewT, e_dgetT, e_fz, e_attr, e_isi, e_sset, e_new, e_call, e_bi, e_heard2, e_app, e_me, es_nil, es_cons, ts_nil, ts_cons, eo_none, eo_some, ec_none, ec_some, i_seq, i_rng, i_zip, i_enum, s_asg, s_par2, s_asgLc, s_asgLcF, s_put, s_putT, s_sat, s_ite, s_ret, s_ret0, s_raise, s_expr, ss_nil, ss_cons, Fl.then, Fl.res, Fn.fill, cmpT, lcF, wipeE, maE, sitD, stD, l3]
    have at_ : (s ++ [O.lst (acc.map stD)])[s.length]? = some (.lst (acc.map stD)) := by simp
    have hx := extT_loc at_ (ys := ((lk kd.steps a l).map fun r => ((i0 : Nat) : Int) :: r).map stD) (LIM_le (by simp; omega))
    have hil := isLst_loc at_
    have hset : (s ++ [O.lst (acc.map stD)]).set s.length (.lst (acc.map stD ++ ((lk kd.steps a l).map fun r => ((i0 : Nat) : Int) :: r).map stD)) = s ++ [.lst ((acc ++ (lk kd.steps a l).map fun r => ((i0 : Nat) : Int) :: r).map stD)] := by
      simp [List.set_append_right]
    rw [hset] at hx
    have e0 : forF (enTg 3 4) (evSs (run tb wf (k+1)) wf maB) (.tup [.int (i0 : Nat), .int l]) (maE n (sitD a ls0) s.length o3 o4) (s ++ [.lst (acc.map stD)]) =
        .nx (maE n (sitD a ls0) s.length (some (.int (i0 : Nat))) (some (.int l))) (s ++ [.lst ((acc ++ (lk kd.steps a l).map fun r => ((i0 : Nat) : Int) :: r).map stD)]) := by
      generalize (acc ++ (lk kd.steps a l).map fun r => ((i0 : Nat) : Int) :: r).map stD = A2 at *
      generalize ((lk kd.steps a l).map fun r => ((i0 : Nat) : Int) :: r).map stD = A1 at *
      generalize acc.map stD = A0 at *
      generalize ((i0 : Nat) : Int) = ii at *
      simp only [maE] at hc
      simp [e_var, e_int, e_bl, e_non, e_str, e_tyn, e_con, e_bin, e_neg, e_cmp, e_chain, e_and, e_or, e_not, e_ite, e_tup, e_lst, e_idx, e_slc, e_dnewT, e_dgetT, e_fz, e_attr, e_isi, e_sset, e_new, e_call, e_bi, e_heard2, e_app, e_me, es_nil, es_cons, ts_nil, ts_cons, eo_none, eo_some, ec_none, ec_some, i_seq, i_rng, i_zip, i_enum, s_asg, s_par2, s_asgLc, s_asgLcF, s_put, s_putT, s_sat, s_ite, s_ret, s_ret0, s_raise, s_expr, ss_nil, ss_cons, Fl.then, Fl.res, Fn.fill, cmpT, forF_ap, enTg, maB, f_moves_at, nth, forB, maE, hil, hc, hx]
    simp only [List.map_cons, List.zipIdx_cons, forLoop, stands, List.all_nil, if_true, e0, Fl.turn]
    rw [e2]
    simp [mvF]
theorem moves_at (T : H_moves_at tb) (k : Nat) {s : Sto} {n : Nat} {st start : Int} {ks : List Kd} (h : TeamAt s n st start ks []) (hk : ∀ kd ∈ ks, KOk st kd) (hl : ks.length ≤ 3) {a : Int} {ls : List Int} (hs : SitOk st ks a ls) :
    run tb wf (k+2) "moves_at" [.loc n, sitD a ls] s = .ok (.v (.tup ((mvF a 0 ks ls).map stD))) s := by
  have hlen := hs.len
  obtain ⟨q3, q4, ef⟩ := ma_loop (wf := wf) T.toH_moves_from k h hk a ls ls ks 0 [] none none (fun j kd hj => by simpa using hj) hlen (by simp; omega)
  have e1 := need_ok (wf := wf) T.toH_need_singles k h
  have hf := s_for (cf := run tb wf (k+1)) (wf := wf) (t := enTg 3 4) (it := .enum (.idx (.var 1) (.int 1))) (b := maB) (ρ := maE n (sitD a ls) s.length none none) (s := s ++ [.lst []]) (s' := s ++ [.lst []]) (I := ⟨(ls.map D.int).zipIdx.map fun p => .tup [.int (p.2 : Nat), p.1], []⟩) (by simp [e_var, e_int, e_bl, e_non, e_str, e_tyn, e_con, e_bin, e_neg, e_cmp, e_chain, e_and, e_or, e_not, e_ite, e_tup, e_lst, e_idx, e_slc, e_dnewT, e_dgetT, e_fz, e_attr, e_isi, e_sset, e_new, e_call, e_bi, e_heard2, e_app, e_me, es_nil, es_cons, ts_nil, ts_cons, eo_none, eo_some, ec_none, ec_some, i_seq, i_rng, i_zip, i_enum, s_asg, s_par2, s_asgLc, s_asgLcF, s_put, s_putT, s_sat, s_ite, s_ret, s_ret0, s_raise, s_expr, ss_nil, ss_cons, Fl.then, Fl.res, Fn.fill, cmpT, maE, sitD])
  simp only [List.map_nil, List.nil_append] at hf ef
  rw [ef] at hf
  have at_ : (s ++ [O.lst ((mvF a 0 ks ls).map stD)])[s.length]? = some (.lst ((mvF a 0 ks ls).map stD)) := by simp
  have hq := seq_loc _ at_
  have ht := (Kp.app s [.lst ((mvF a 0 ks ls).map stD)]).n (d := .tup ((mvF a 0 ks ls).map stD)) (pl_under _ (by simp [pl, st_pls]))
  rw [run, T.moves_at]
  simp only [maB, enTg, f_moves_at, nth, forB, maE] at hf ⊢
  generalize (mvF a 0 ks ls).map stD = X at *
  simp [e_var, e_int, e_bl, e_non, e_str, e_tyn, e_con, e_bin, e_neg, e_cmp, e_chain, e_and, e_or, e_not, e_ite, e_tup, e_lst, e_idx, e_slc, e_dnewT, e_dgetT, e_fz, e_attr, e_isi, e_sset, e_new, e_call, e_bi, e_heard2, e_app, e_me, es_nil, es_cons, ts_nil, ts_cons, eo_none, eo_some, ec_none, ec_some, i_seq, i_rng, i_zip, i_enum, s_asg, s_par2, s_asgLc, s_asgLcF, s_put, s_putT, s_sat, s_ite, s_ret, s_ret0, s_raise, s_expr, ss_nil, ss_cons, Fl.then, Fl.res, Fn.fill, cmpT, e1, hf, hq, ht]
theorem is_stuck (T : H_is_stuck tb) (k : Nat) {s : Sto} {n : Nat} {st start : Int} {ks : List Kd} (h : TeamAt s n st start ks []) (hk : ∀ kd ∈ ks, KOk st kd) (hl : ks.length ≤ 3) {a : Int} {ls : List Int} (hs : SitOk st ks a ls) :
    run tb wf (k+3) "is_stuck" [.loc n, sitD a ls] s = .ok (.v (.bl (decide (mvF a 0 ks ls = [])))) s := by
  have e1 := moves_at (wf := wf) T.toH_moves_at k h hk hl hs
  have e2 := eq_sts0 (mvF a 0 ks ls) s
  have ht := fun b => (Kp.self s).n (d := .bl b) rfl
  have l0 : 0 ≤ LIM := by decide
  generalize decide (mvF a 0 ks ls = []) = B at *
  generalize (mvF a 0 ks ls).map stD = X at *
  rw [run, T.is_stuck]
  simp [e_var, e_int, e_bl, e_non, e_str, e_tyn, e_con, e_bin, e_neg, e_cmp, e_chain, e_and, e_or, e_not, e_ite, e_tup, e_lst, e_idx, e_slc, e_dnewT, e_dgetT, e_fz, e_attr, e_isi, e_sset, e_new, e_call, e_bi, e_heard2, e_app, e_me, es_nil, es_cons, ts_nil, ts_cons, eo_none, eo_some, ec_none, ec_some, i_seq, i_rng, i_zip, i_enum, s_asg, s_par2, s_asgLc, s_asgLcF, s_put, s_putT, s_sat, s_ite, s_ret, s_ret0, s_raise, s_expr, ss_nil, ss_cons, Fl.then, Fl.res, Fn.fill, cmpT, f_is_stuck, e1, e2, ht]
end
end Fam
end
section
set_option Elab.async false
set_option linter.all false
set_option maxRecDepth 100000
set_option maxHeartbeats 1000000
set_option linter.unusedSimpArgs false
/-! Mm: a move done; the law's own moves. -/
namespace Fam
open Fy
def ledS (a : Int) (ls : List Int) : List Int → Int × List Int
  | [i, t, m] => (t, ls.take i.toNat ++ [m] ++ ls.drop (i.toNat + 1))
  | _ => (a, ls)
theorem ledS_nil (a : Int) (ls : List Int) : ledS a ls [] = (a, ls) := rfl
theorem cut_take_i (ls : List Int) (j : Nat) (h : j ≤ ls.length) : cutD (ls.map .int) none (some (j : Int)) = (ls.take j).map .int := by
  rw [cut_take _ _ (by simpa using h), List.map_take]
theorem cut_drop_i (ls : List Int) (j : Nat) (h : j + 1 ≤ ls.length) : cutD (ls.map .int) (some ((j : Int) + 1)) none = (ls.drop (j + 1)).map .int := by
  have : (j : Int) + 1 = ((j + 1 : Nat) : Int) := by omega
  rw [this, cut_drop _ _ (by simpa using h), List.map_drop]
theorem cut31 (x y z : D) : cutD [x, y, z] (some 1) none = [y, z] := rfl
theorem cut42 (x y z u : D) : cutD [x, y, z, u] none (some 2) = [x, y] := rfl
theorem row3 {p q r : Int} {d : D} (h : rowB [p, q, r] d = true) : ∃ i t m : Int, d = stD [i, t, m] ∧ (0 ≤ i ∧ i ≤ p) ∧ (0 ≤ t ∧ t ≤ q) ∧ (0 ≤ m ∧ m ≤ r) := by
  cases d with
  | tup xs =>
    match xs, h with
    | [x, y, z], h =>
      simp only [rowB, List.zip_cons_cons, List.zip_nil_left, List.all_cons, List.all_nil, Bool.and_true, Bool.and_eq_true] at h
      obtain ⟨_, h1, h2, h3⟩ := h
      cases x <;> first | (simp [num] at h1; done) | skip
      cases y <;> first | (simp [num] at h2; done) | skip
      cases z <;> first | (simp [num] at h3; done) | skip
      simp only [num, Bool.and_eq_true, decide_eq_true_eq] at h1 h2 h3
      exact ⟨_, _, _, rfl, h1, h2, h3⟩
    | [], h => simp [rowB] at h
    | [_], h => simp [rowB] at h
    | [_, _], h => simp [rowB] at h
    | _ :: _ :: _ :: _ :: _, h => simp [rowB] at h
  | _ => simp [rowB] at h
theorem row_st3 (p q r i t m : Int) : rowB [p, q, r] (stD [i, t, m]) = (decide (0 ≤ i) && decide (i ≤ p) && (decide (0 ≤ t) && decide (t ≤ q)) && (decide (0 ≤ m) && decide (m ≤ r))) := by
  simp [rowB, stD, num, Bool.and_assoc]
theorem row_st2 (p q i t : Int) : rowB [p, q] (stD [i, t]) = (decide (0 ≤ i) && decide (i ≤ p) && (decide (0 ≤ t) && decide (t ≤ q))) := by
  simp [rowB, stD, num, Bool.and_assoc]
theorem inMv_of {mv : List (List Int)} {d : D} (h : inMv mv d = true) : ∃ r ∈ mv, d = stD r := by
  unfold inMv at h
  cases hr : rowOf d with
  | none => rw [hr] at h; simp at h
  | some r =>
    rw [hr] at h
    refine ⟨r, by simpa using h, ?_⟩
    cases d with
    | tup ys => simp only [rowOf] at hr; rw [intsD_of hr]; rfl
    | _ => simp [rowOf] at hr
/-- a move, shown -/
theorem mv_move {st : Int} {ks : List Kd} (hk : ∀ kd ∈ ks, KOk st kd) {a : Int} {ls : List Int} {r : List Int} (hr : r ∈ mvF a 0 ks ls) :
    ∃ (j : Nat) (kd : Kd) (l t m : Int), ks[j]? = some kd ∧ ls[j]? = some l ∧ [t, m] ∈ lk kd.steps a l ∧ r = [(j : Int), t, m] ∧ (0 ≤ t ∧ t < st) ∧ (0 ≤ m ∧ m < kd.many) := by
  obtain ⟨j, kd, l, q, h1, h2, h3, h4⟩ := (mv_mem a r 0 ks ls).mp hr
  obtain ⟨t, m, rfl, h5, h6⟩ := lk_mem (hk kd (List.mem_of_getElem? h1)) h3
  exact ⟨j, kd, l, t, m, h1, h2, h3, by rw [h4]; simp, h5, h6⟩
theorem led_ok {st : Int} {ks : List Kd} (hk : ∀ kd ∈ ks, KOk st kd) {a : Int} {ls : List Int} (hs : SitOk st ks a ls) {r : List Int} (hr : r ∈ mvF a 0 ks ls ∨ r = []) : SitOk st ks (ledS a ls r).1 (ledS a ls r).2 := by
  rcases hr with hr | rfl
  · obtain ⟨j, kd, l, t, m, h1, h2, h3, rfl, h5, h6⟩ := mv_move hk hr
    have hj : j < ls.length := (List.getElem?_eq_some_iff.mp h2).1
    have e : ls.take j ++ [m] ++ ls.drop (j + 1) = ls.set j m := by
      rw [List.set_eq_take_append_cons_drop, if_pos hj]
      simp
    simp only [ledS, Int.toNat_natCast, e]
    refine ⟨h5.1, h5.2, by simpa using hs.len, fun i kd' l' g1 g2 => ?_⟩
    rw [List.getElem?_set] at g2
    by_cases hij : j = i
    · subst hij
      simp [hj] at g2
      rw [h1] at g1
      cases g1
      omega
    · simp [hij] at g2
      exact hs.ok i kd' l' g1 g2
  · exact hs
theorem odd_tup1 {xs : List D} {n : Nat} (h : pl (.tup xs) = true) : pls xs = true := by simpa [pl] using h
section
variable {tb : Tab} {wf : Nat}
theorem is_step (T : H_is_step tb) (k : Nat) {s : Sto} {n : Nat} {st start : Int} {ks cs : List Kd} (h : TeamAt s n st start ks cs) {j : Nat} {kd : Kd} (hj : (ks ++ cs)[j]? = some kd) (hk : KOk st kd) (a l t m : Int) :
    run tb wf (k+4) "is_step" [.loc n, .int (j : Nat), .int a, .int l, stD [t, m]] s = .ok (.v (.bl (decide ([t, m] ∈ lk kd.steps a l)))) s := by
  have e1 := h.f_states
  have e2 := h.f_kinds
  have e3 := atI_map (f := kD) hj
  have e4 := is_row (wf := wf) T.toH_is_row k s (d := stD [t, m]) [st - 1, kd.many - 1] (st_pl _) (.inl rfl) (by simp)
  have e5 := moves_from (wf := wf) T.toH_moves_from (k+2) h hj a l
  have e6 := in_st (lk kd.steps a l) [t, m] _ (.inr rfl) s
  have e7 : L2.atI [D.int kd.many, .int kd.begin, .tup (kd.steps.map stD)] 0 = some (.int kd.many) := by simp
  have ht := fun b => (Kp.self s).n (d := .bl b) rfl
  have l2 : 2 ≤ LIM := by decide
  have hfin : rowB [st - 1, kd.many - 1] (stD [t, m]) = false → decide ([t, m] ∈ lk kd.steps a l) = false := fun hf => by
    rw [decide_eq_false_iff_not]
    intro hm
    obtain ⟨t', m', e, h1, h2⟩ := lk_mem hk hm
    cases e
    rw [row_st2] at hf
    simp at hf
    omega
  generalize rowB [st - 1, kd.many - 1] (stD [t, m]) = B at *
  generalize decide ([t, m] ∈ lk kd.steps a l) = C at *
  generalize (lk kd.steps a l).map stD = X at *
  generalize stD [t, m] = V at *
  simp only [kD] at e3
  generalize (ks ++ cs).map kD = K at *
  generalize ((j : Nat) : Int) = jj at *
  simp only [List.map_cons, List.map_nil] at e4
  rw [run, T.is_step]
  cases B with
  | true => simp [e_var, e_int, e_bl, e_non, e_str, e_tyn, e_con, e_bin, e_neg, e_cmp, e_chain, e_and, e_or, e_not, e_ite, e_tup, e_lst, e_idx, e_slc, e_dnewT, e_dgetT, e_fz, e_attr, e_isi, e_sset, e_new, e_call, e_bi, e_heard2, e_app, e_me, es_nil, es_cons, ts_nil, ts_cons, eo_none, eo_some, ec_none, ec_some, i_seq, i_rng, i_zip, i_enum, s_asg, s_par2, s_asgLc, s_asgLcF, s_put, s_putT, s_sat, s_ite, s_ret, s_ret0, s_raise, s_expr, ss_nil, ss_cons, Fl.then, Fl.res, Fn.fill, cmpT, f_is_step, e1, e2, e3, e4, e5, e6, e7, l2, ht]
  | false =>
    rw [hfin rfl]
    simp [e_var, e_int, e_bl, e_non, e_str, e_tyn, e_con, e_bin, e_neg, e_cmp, e_chain, e_and, e_or, e_not, e_ite, e_tup, e_lst, e_idx, e_slc, e_dnewT, e_dgetT, e_fz, e_attr, e_isi, e_sset, e_new, e_call, e_bi, e_heard2, e_app, e_me, es_nil, es_cons, ts_nil, ts_cons, eo_none, eo_some, ec_none, ec_some, i_seq, i_rng, i_zip, i_enum, s_asg, s_par2, s_asgLc, s_asgLcF, s_put, s_putT, s_sat, s_ite, s_ret, s_ret0, s_raise, s_expr, ss_nil, ss_cons, Fl.then, Fl.res, Fn.fill, cmpT, f_is_step, e1, e2, e3, e4, e5, e6, e7, l2, ht]
theorem is_move_at (T : H_is_move_at tb) (k : Nat) {s : Sto} {n : Nat} {st start : Int} {ks : List Kd} (h : TeamAt s n st start ks []) (hk : ∀ kd ∈ ks, KOk st kd) {a : Int} {ls : List Int} (hs : SitOk st ks a ls) {d : D} (hd : pl d = true) :
    run tb wf (k+5) "is_move_at" [.loc n, sitD a ls, d] s = .ok (.v (.bl (restB d || inMv (mvF a 0 ks ls) d))) s := by
  have e1 := need_ok (wf := wf) T.toH_need_singles (k+3) h
  have e2 := is_rest (wf := wf) T.toH_is_rest (k+3) s hd
  have e3 := is_row (wf := wf) T.toH_is_row (k+1) s (d := d) [(ks.length : Int) - 1, st - 1, 63] hd (.inl rfl) (by simp)
  have e4 := h.f_alone
  have e5 := h.f_states
  have ht := fun b => (Kp.self s).n (d := .bl b) rfl
  have l3 : 3 ≤ LIM := by decide
  simp only [List.map_cons, List.map_nil] at e3
  rw [run, T.is_move_at]
  cases hr : restB d with
  | true =>
    rw [hr] at e2
    simp [e_var, e_int, e_bl, e_non, e_str, e_tyn, e_con, e_bin, e_neg, e_cmp, e_chain, e_and, e_or, e_not, e_ite, e_tup, e_lst, e_idx, e_slc, e_dnewT, e_dgetT, e_fz, e_attr, e_isi, e_sset, e_new, e_call, e_bi, e_heard2, e_app, e_me, es_nil, es_cons, ts_nil, ts_cons, eo_none, eo_some, ec_none, ec_some, i_seq, i_rng, i_zip, i_enum, s_asg, s_par2, s_asgLc, s_asgLcF, s_put, s_putT, s_sat, s_ite, s_ret, s_ret0, s_raise, s_expr, ss_nil, ss_cons, Fl.then, Fl.res, Fn.fill, cmpT, f_is_move_at, e1, e2, ht]
  | false =>
    rw [hr] at e2
    cases hb : rowB [(ks.length : Int) - 1, st - 1, 63] d with
    | false =>
      rw [hb] at e3
      have hfin : inMv (mvF a 0 ks ls) d = false := by
        cases hm : inMv (mvF a 0 ks ls) d with
        | false => rfl
        | true =>
          obtain ⟨r, hmr, rfl⟩ := inMv_of hm
          obtain ⟨j, kd, l, t, m, h1, h2, h3, rfl, h5, h6⟩ := mv_move hk hmr
          have hj := (List.getElem?_eq_some_iff.mp h1).1
          have := (hk kd (List.mem_of_getElem? h1)).m3
          rw [row_st3] at hb
          simp at hb
          omega
      rw [hfin]
      simp [e_var, e_int, e_bl, e_non, e_str, e_tyn, e_con, e_bin, e_neg, e_cmp, e_chain, e_and, e_or, e_not, e_ite, e_tup, e_lst, e_idx, e_slc, e_dnewT, e_dgetT, e_fz, e_attr, e_isi, e_sset, e_new, e_call, e_bi, e_heard2, e_app, e_me, es_nil, es_cons, ts_nil, ts_cons, eo_none, eo_some, ec_none, ec_some, i_seq, i_rng, i_zip, i_enum, s_asg, s_par2, s_asgLc, s_asgLcF, s_put, s_putT, s_sat, s_ite, s_ret, s_ret0, s_raise, s_expr, ss_nil, ss_cons, Fl.then, Fl.res, Fn.fill, cmpT, f_is_move_at, e1, e2, e3, e4, e5, l3, ht]
    | true =>
      rw [hb] at e3
      obtain ⟨i, t, m, rfl, hi, htt, hm⟩ := row3 hb
      obtain ⟨j, rfl⟩ := Int.eq_ofNat_of_zero_le hi.1
      have hj : j < ks.length := by omega
      have hj2 : j < ls.length := by have := hs.len; omega
      have hkj : ks[j]? = some ks[j] := List.getElem?_eq_getElem hj
      have hlj : ls[j]? = some ls[j] := List.getElem?_eq_getElem hj2
      generalize ks[j] = kd at hkj
      generalize ls[j] = l at hlj
      have e6 := is_step (wf := wf) T.toH_is_step k h (j := j) (kd := kd) (by simpa using hkj) (hk kd (List.mem_of_getElem? hkj)) a l t m
      have e7 := atI_map (f := D.int) hlj
      have hfin : inMv (mvF a 0 ks ls) (stD [(j : Int), t, m]) = decide ([t, m] ∈ lk kd.steps a l) := by
        rw [inMv_st]
        congr 1
        apply propext
        rw [mv_mem]
        constructor
        · rintro ⟨j', kd', l', q, h1, h2, h3, h4⟩
          simp only [Nat.zero_add, List.cons.injEq] at h4
          obtain ⟨h4, rfl⟩ := h4
          have : j = j' := by omega
          subst this
          rw [hkj] at h1
          rw [hlj] at h2
          cases h1
          cases h2
          exact h3
        · intro h3
          exact ⟨j, kd, l, [t, m], hkj, hlj, h3, by simp⟩
      rw [hfin]
      generalize decide ([t, m] ∈ lk kd.steps a l) = B at *
      have hcut := cut31 (.int (j : Nat)) (.int t) (.int m)
      simp only [sitD, stD, List.map_cons, List.map_nil] at e1 e2 e3 e6 ⊢
      generalize ls.map D.int = L at *
      generalize ((j : Nat) : Int) = jj at *
      simp [e_var, e_int, e_bl, e_non, e_str, e_tyn, e_con, e_bin, e_neg, e_cmp, e_chain, e_and, e_or, e_not, e_ite, e_tup, e_lst, e_idx, e_slc, e_dnewT, e_dgetT, e_fz, e_attr, e_isi, e_sset, e_new, e_call, e_bi, e_heard2, e_app, e_me, es_nil, es_cons, ts_nil, ts_cons, eo_none, eo_some, ec_none, ec_some, i_seq, i_rng, i_zip, i_enum, s_asg, s_par2, s_asgLc, s_asgLcF, s_put, s_putT, s_sat, s_ite, s_ret, s_ret0, s_raise, s_expr, ss_nil, ss_cons, Fl.then, Fl.res, Fn.fill, cmpT, f_is_move_at, e1, e2, e3, e4, e5, e6, e7, l3, ht, hcut, Fy.T.froz]
theorem led (T : H_led tb) (k : Nat) {s : Sto} {st : Int} {ks : List Kd} (hk : ∀ kd ∈ ks, KOk st kd) (hl : ks.length ≤ 3) {a : Int} {ls : List Int} (hs : SitOk st ks a ls) {r : List Int} (hr : r ∈ mvF a 0 ks ls ∨ r = []) :
    run tb wf (k+1) "led" [sitD a ls, stD r] s = .ok (.v (sitD (ledS a ls r).1 (ledS a ls r).2)) s := by
  have ht := fun x y => (Kp.self s).n (pl_under _ (sit_pl x y))
  have e1 := eq_st r [] s
  rcases hr with hr | rfl
  · obtain ⟨j, kd, l, t, m, h1, h2, h3, rfl, h5, h6⟩ := mv_move hk hr
    have hj : j < ls.length := (List.getElem?_eq_some_iff.mp h2).1
    have hlen := hs.len
    have c1 := cut_take_i ls j (by omega)
    have c2 := cut_drop_i ls j (by omega)
    have g1 : (ls.take j).length ≤ 3 := by simp; omega
    have g2 : (ls.drop (j + 1)).length ≤ 3 := by simp; omega
    have b1 : ((ls.take j).map D.int).length + [D.int m].length ≤ LIM := LIM_le (by simp; omega)
    have b2 : ((ls.take j).map D.int ++ [D.int m]).length + ((ls.drop (j + 1)).map D.int).length ≤ LIM := LIM_le (by simp; omega)
    have ht' := ht (ledS a ls [(j : Int), t, m]).1 (ledS a ls [(j : Int), t, m]).2
    simp only [ledS, Int.toNat_natCast, sitD, List.map_append, List.map_cons, List.map_nil, stD] at ht' e1 ⊢
    generalize (ls.take j).map D.int = X at *
    generalize (ls.drop (j + 1)).map D.int = Y at *
    generalize ls.map D.int = L at *
    generalize ((j : Nat) : Int) = jj at *
    have l2 : 2 ≤ LIM := by decide
    have l1 : 1 ≤ LIM := by decide
    have n3 : decide ([jj, t, m] = ([] : List Int)) = false := by simp
    rw [n3] at e1
    have b5 : X.length + 1 ≤ LIM := b1
    have b6 : X.length + 1 + Y.length ≤ LIM := by simpa using b2
    have ht2 : tidy s (.v (.tup [D.int t, .tup (X ++ D.int m :: Y)])) s = .ok (.v (.tup [D.int t, .tup (X ++ D.int m :: Y)])) s := by simpa using ht'
    rw [run, T.led]
    simp [e_var, e_int, e_bl, e_non, e_str, e_tyn, e_con, e_bin, e_neg, e_cmp, e_chain, e_and, e_or, e_not, e_ite, e_tup, e_lst, e_idx, e_slc, e_dnewT, e_dgetT, e_fz, e_attr, e_isi, e_sset, e_new, e_call, e_bi, e_heard2, e_app, e_me, es_nil, es_cons, ts_nil, ts_cons, eo_none, eo_some, ec_none, ec_some, i_seq, i_rng, i_zip, i_enum, s_asg, s_par2, s_asgLc, s_asgLcF, s_put, s_putT, s_sat, s_ite, s_ret, s_ret0, s_raise, s_expr, ss_nil, ss_cons, Fl.then, Fl.res, Fn.fill, cmpT, f_led, e1, c1, c2, b5, b6, l1, l2, Fy.T.froz, ht2]
  · have ht' := ht a ls
    simp only [stD, List.map_nil] at e1 ⊢
    rw [run, T.led]
    simp only [ledS]
    generalize sitD a ls = S at *
    simp [e_var, e_int, e_bl, e_non, e_str, e_tyn, e_con, e_bin, e_neg, e_cmp, e_chain, e_and, e_or, e_not, e_ite, e_tup, e_lst, e_idx, e_slc, e_dnewT, e_dgetT, e_fz, e_attr, e_isi, e_sset, e_new, e_call, e_bi, e_heard2, e_app, e_me, es_nil, es_cons, ts_nil, ts_cons, eo_none, eo_some, ec_none, ec_some, i_seq, i_rng, i_zip, i_enum, s_asg, s_par2, s_asgLc, s_asgLcF, s_put, s_putT, s_sat, s_ite, s_ret, s_ret0, s_raise, s_expr, ss_nil, ss_cons, Fl.then, Fl.res, Fn.fill, cmpT, f_led, e1, ht']
theorem gone (T : H_gone tb) (k : Nat) {s : Sto} {n : Nat} {st start : Int} {ks : List Kd} (h : TeamAt s n st start ks []) (hk : ∀ kd ∈ ks, KOk st kd) (hl : ks.length ≤ 3) {a : Int} {ls : List Int} (hs : SitOk st ks a ls) {r : List Int} (hr : r ∈ mvF a 0 ks ls ∨ r = []) :
    run tb wf (k+6) "gone" [.loc n, sitD a ls, stD r] s = .ok (.v (sitD (ledS a ls r).1 (ledS a ls r).2)) s := by
  have e1 := is_move_at (wf := wf) T.toH_is_move_at k h hk hs (st_pl r)
  have e2 := led (wf := wf) T.toH_led (k+4) (s := s) hk hl hs hr
  have hb : (restB (stD r) || inMv (mvF a 0 ks ls) (stD r)) = true := by
    rcases hr with hr | rfl
    · rw [inMv_st]; simp [hr]
    · rfl
  rw [hb] at e1
  have ht := (Kp.self s).n (pl_under _ (sit_pl (ledS a ls r).1 (ledS a ls r).2))
  generalize sitD (ledS a ls r).1 (ledS a ls r).2 = S2 at *
  generalize sitD a ls = S at *
  generalize stD r = R at *
  rw [run, T.gone]
  simp [e_var, e_int, e_bl, e_non, e_str, e_tyn, e_con, e_bin, e_neg, e_cmp, e_chain, e_and, e_or, e_not, e_ite, e_tup, e_lst, e_idx, e_slc, e_dnewT, e_dgetT, e_fz, e_attr, e_isi, e_sset, e_new, e_call, e_bi, e_heard2, e_app, e_me, es_nil, es_cons, ts_nil, ts_cons, eo_none, eo_some, ec_none, ec_some, i_seq, i_rng, i_zip, i_enum, s_asg, s_par2, s_asgLc, s_asgLcF, s_put, s_putT, s_sat, s_ite, s_ret, s_ret0, s_raise, s_expr, ss_nil, ss_cons, Fl.then, Fl.res, Fn.fill, cmpT, f_gone, e1, e2, ht]
theorem gone_no (T : H_gone tb) (k : Nat) {s : Sto} {n : Nat} {st start : Int} {ks : List Kd} (h : TeamAt s n st start ks []) (hk : ∀ kd ∈ ks, KOk st kd) {a : Int} {ls : List Int} (hs : SitOk st ks a ls) {d : D} (hd : pl d = true) (h0 : restB d = false) (h1 : inMv (mvF a 0 ks ls) d = false) :
    run tb wf (k+6) "gone" [.loc n, sitD a ls, d] s = .ex ⟨"Refused", .str "move"⟩ s := by
  have e1 := is_move_at (wf := wf) T.toH_is_move_at k h hk hs hd
  rw [h0, h1] at e1
  have hr := fun ρ => res_ex (ρ := ρ) (x := ⟨"Refused", .str "move"⟩) (Kp.self s) rfl
  simp only [Fl.res] at hr
  generalize sitD a ls = S at *
  rw [run, T.gone]
  simp [e_var, e_int, e_bl, e_non, e_str, e_tyn, e_con, e_bin, e_neg, e_cmp, e_chain, e_and, e_or, e_not, e_ite, e_tup, e_lst, e_idx, e_slc, e_dnewT, e_dgetT, e_fz, e_attr, e_isi, e_sset, e_new, e_call, e_bi, e_heard2, e_app, e_me, es_nil, es_cons, ts_nil, ts_cons, eo_none, eo_some, ec_none, ec_some, i_seq, i_rng, i_zip, i_enum, s_asg, s_par2, s_asgLc, s_asgLcF, s_put, s_putT, s_sat, s_ite, s_ret, s_ret0, s_raise, s_expr, ss_nil, ss_cons, Fl.then, Fl.res, Fn.fill, cmpT, f_gone, e1, hr]
/-! ### the law's own -/
theorem law_opening (T : H__law_opening tb) (k : Nat) (s : Sto) {start : Int} {ks : List Kd} (hl : ks.length ≤ 1000) : run tb wf (k+1) "_law_opening" [.int start, .fro (ks.map kD)] s = .ok (.v (sitD start (ks.map (·.begin)))) s := by
  have hc : evE (run tb wf k) (.lc [("kind", 2)] (.nm 2) (.seq (.var 1)) .none (.idx (.var 2) (.int 1))) [some (.int start), some (.fro (ks.map kD)), none] s = .ok (.l (ks.map fun kd => .int kd.begin)) s := by
    rw [e_lc (I := ⟨ks.map kD, []⟩) (s' := s) (by simp [e_var, e_int, e_bl, e_non, e_str, e_tyn, e_con, e_bin, e_neg, e_cmp, e_chain, e_and, e_or, e_not, e_ite, e_tup, e_lst, e_idx, e_slc, e_dnewT, e_dgetT, e_fz, e_attr, e_isi, e_sset, e_new, e_call, e_bi, e_heard2, e_app, e_me, es_nil, es_cons, ts_nil, ts_cons, eo_none, eo_some, ec_none, ec_some, i_seq, i_rng, i_zip, i_enum, s_asg, s_par2, s_asgLc, s_asgLcF, s_put, s_putT, s_sat, s_ite, s_ret, s_ret0, s_raise, s_expr, ss_nil, ss_cons, Fl.then, Fl.res, Fn.fill, cmpT])]
    exact lc_map rfl ks (fun kd hk => by simp [e_var, e_int, e_bl, e_non, e_str, e_tyn, e_con, e_bin, e_neg, e_cmp, e_chain, e_and, e_or, e_not, e_ite, e_tup, e_lst, e_idx, e_slc, e_dnewT, e_dgetT, e_fz, e_attr, e_isi, e_sset, e_new, e_call, e_bi, e_heard2, e_app, e_me, es_nil, es_cons, ts_nil, ts_cons, eo_none, eo_some, ec_none, ec_some, i_seq, i_rng, i_zip, i_enum, s_asg, s_par2, s_asgLc, s_asgLcF, s_put, s_putT, s_sat, s_ite, s_ret, s_ret0, s_raise, s_expr, ss_nil, ss_cons, Fl.then, Fl.res, Fn.fill, cmpT, lcF, wipeE, kD]) (LIM_le (by omega))
  have l2 : 2 ≤ LIM := by decide
  have ht := (Kp.self s).n (pl_under _ (sit_pl start (ks.map (·.begin))))
  simp only [sitD, List.map_map, Function.comp_def] at ht ⊢
  generalize ks.map kD = K at *
  rw [run, T._law_opening]
  simp [e_var, e_int, e_bl, e_non, e_str, e_tyn, e_con, e_bin, e_neg, e_cmp, e_chain, e_and, e_or, e_not, e_ite, e_tup, e_lst, e_idx, e_slc, e_dnewT, e_dgetT, e_fz, e_attr, e_isi, e_sset, e_new, e_call, e_bi, e_heard2, e_app, e_me, es_nil, es_cons, ts_nil, ts_cons, eo_none, eo_some, ec_none, ec_some, i_seq, i_rng, i_zip, i_enum, s_asg, s_par2, s_asgLc, s_asgLcF, s_put, s_putT, s_sat, s_ite, s_ret, s_ret0, s_raise, s_expr, ss_nil, ss_cons, Fl.then, Fl.res, Fn.fill, cmpT, f__law_opening, hc, l2, ht]
theorem law_led (T : H__law_led tb) (k : Nat) {s : Sto} {st : Int} {ks : List Kd} (hk : ∀ kd ∈ ks, KOk st kd) (hl : ks.length ≤ 3) {a : Int} {ls : List Int} (hs : SitOk st ks a ls) {r : List Int} (hr : r ∈ mvF a 0 ks ls ∨ r = []) :
    run tb wf (k+1) "_law_led" [sitD a ls, stD r] s = .ok (.v (sitD (ledS a ls r).1 (ledS a ls r).2)) s := by
  have ht := fun x y => (Kp.self s).n (pl_under _ (sit_pl x y))
  have e1 := eq_st r [] s
  rcases hr with hr | rfl
  · obtain ⟨j, kd, l, t, m, h1, h2, h3, rfl, h5, h6⟩ := mv_move hk hr
    have hj : j < ls.length := (List.getElem?_eq_some_iff.mp h2).1
    have hlen := hs.len
    have c1 := cut_take_i ls j (by omega)
    have c2 := cut_drop_i ls j (by omega)
    have g1 : (ls.take j).length ≤ 3 := by simp; omega
    have g2 : (ls.drop (j + 1)).length ≤ 3 := by simp; omega
    have b1 : ((ls.take j).map D.int).length + [D.int m].length ≤ LIM := LIM_le (by simp; omega)
    have b2 : ((ls.take j).map D.int ++ [D.int m]).length + ((ls.drop (j + 1)).map D.int).length ≤ LIM := LIM_le (by simp; omega)
    have ht' := ht (ledS a ls [(j : Int), t, m]).1 (ledS a ls [(j : Int), t, m]).2
    simp only [ledS, Int.toNat_natCast, sitD, List.map_append, List.map_cons, List.map_nil, stD] at ht' e1 ⊢
    generalize (ls.take j).map D.int = X at *
    generalize (ls.drop (j + 1)).map D.int = Y at *
    generalize ls.map D.int = L at *
    generalize ((j : Nat) : Int) = jj at *
    have l2 : 2 ≤ LIM := by decide
    have l1 : 1 ≤ LIM := by decide
    have n3 : decide ([jj, t, m] = ([] : List Int)) = false := by simp
    rw [n3] at e1
    have b5 : X.length + 1 ≤ LIM := b1
    have b6 : X.length + 1 + Y.length ≤ LIM := by simpa using b2
    have ht2 : tidy s (.v (.tup [D.int t, .tup (X ++ D.int m :: Y)])) s = .ok (.v (.tup [D.int t, .tup (X ++ D.int m :: Y)])) s := by simpa using ht'
    rw [run, T._law_led]
    simp [e_var, e_int, e_bl, e_non, e_str, e_tyn, e_con, e_bin, e_neg, e_cmp, e_chain, e_and, e_or, e_not, e_ite, e_tup, e_lst, e_idx, e_slc, e_dnewT, e_dgetT, e_fz, e_attr, e_isi, e_sset, e_new, e_call, e_bi, e_heard2, e_app, e_me, es_nil, es_cons, ts_nil, ts_cons, eo_none, eo_some, ec_none, ec_some, i_seq, i_rng, i_zip, i_enum, s_asg, s_par2, s_asgLc, s_asgLcF, s_put, s_putT, s_sat, s_ite, s_ret, s_ret0, s_raise, s_expr, ss_nil, ss_cons, Fl.then, Fl.res, Fn.fill, cmpT, f__law_led, e1, c1, c2, b5, b6, l1, l2, Fy.T.froz, ht2]
  · have ht' := ht a ls
    simp only [stD, List.map_nil] at e1 ⊢
    rw [run, T._law_led]
    simp only [ledS]
    generalize sitD a ls = S at *
    simp [e_var, e_int, e_bl, e_non, e_str, e_tyn, e_con, e_bin, e_neg, e_cmp, e_chain, e_and, e_or, e_not, e_ite, e_tup, e_lst, e_idx, e_slc, e_dnewT, e_dgetT, e_fz, e_attr, e_isi, e_sset, e_new, e_call, e_bi, e_heard2, e_app, e_me, es_nil, es_cons, ts_nil, ts_cons, eo_none, eo_some, ec_none, ec_some, i_seq, i_rng, i_zip, i_enum, s_asg, s_par2, s_asgLc, s_asgLcF, s_put, s_putT, s_sat, s_ite, s_ret, s_ret0, s_raise, s_expr, ss_nil, ss_cons, Fl.then, Fl.res, Fn.fill, cmpT, f__law_led, e1, ht']
end
end Fam
end
section
set_option Elab.async false
set_option linter.all false
set_option maxRecDepth 100000
set_option maxHeartbeats 1000000
set_option linter.unusedSimpArgs false
/-! Mn: the law's own list of moves; any situation. -/
namespace Fam
open Fy
def lmB : Ss := forB (nth f__law_moves.body 1)
abbrev lmE (K d : D) (m : Nat) (o3 o4 : Option D) : Env := [some K, some d, some (.loc m), o3, o4, none]
section
variable {tb : Tab} {wf : Nat}
/-- the steps of one kind that go from here -/
theorem lm_lc (k : Nat) (s : Sto) {st : Int} {kd : Kd} (hkd : KOk st kd) (K : D) (a l : Int) (ls0 : List Int) (m j : Nat) (hj : ls0[j]? = some l) :
    evE (run tb wf k) (.lc [("step", 5)] (.nm 5) (.seq (.idx (.var 4) (.int 2))) (.some (.cmp .eq (.slc (.var 5) .none (.some (.int 2))) (.tup (.cons (.idx (.var 1) (.int 0)) (.cons (.idx (.idx (.var 1) (.int 1)) (.var 3)) .nil))))) (.tup (.cons (.var 3) (.cons (.idx (.var 5) (.int 2)) (.cons (.idx (.var 5) (.int 3)) .nil)))))
      (lmE K (sitD a ls0) m (some (.int (j : Nat))) (some (kD kd))) s = .ok (.l (((lk kd.steps a l).map fun r => ((j : Nat) : Int) :: r).map stD)) s := by
  have hlen := hkd.len
  rw [e_lc (I := ⟨kd.steps.map stD, []⟩) (s' := s) (by simp [e_var, e_int, e_bl, e_non, e_str, e_tyn, e_con, e_bin, e_neg, e_cmp, e_chain, e_and, e_or, e_not, e_ite, e_tup, e_lst, e_idx, e_slc, e_dnewT, e_dgetT, e_fz, e_attr, e_isi, e_sset, e_new, e_call, e_bi, e_heard2, e_app, e_me, es_nil, es_cons, ts_nil, ts_cons, eo_none, eo_some, ec_none, ec_some, i_seq, i_rng, i_zip, i_enum, s_asg, s_par2, s_asgLc, s_asgLcF, s_put, s_putT, s_sat, s_ite, s_ret, s_ret0, s_raise, s_expr, ss_nil, ss_cons, Fl.then, Fl.res, Fn.fill, cmpT, lmE, kD])]
  have hat := atI_map (f := D.int) hj
  have l3 : 3 ≤ LIM := by decide
  have l2 : 2 ≤ LIM := by decide
  have := lc_pure (A := stD) (G := fun r => if r.take 2 = [a, l] then some (stD (((j : Nat) : Int) :: r.drop 2)) else none) (s := s) (src := []) (F := lcF (.nm 5) [5] (lmE K (sitD a ls0) m (some (.int (j : Nat))) (some (kD kd))) (evC (run tb wf k) (.some (.cmp .eq (.slc (.var 5) .none (.some (.int 2))) (.tup (.cons (.idx (.var 1) (.int 0)) (.cons (.idx (.idx (.var 1) (.int 1)) (.var 3)) .nil)))))) (evE (run tb wf k) (.tup (.cons (.var 3) (.cons (.idx (.var 5) (.int 2)) (.cons (.idx (.var 5) (.int 3)) .nil)))))) rfl kd.steps [] (fun r hr => by
    obtain ⟨s', l', t', m', rfl, _⟩ := hkd.ok r hr
    have e1 := eq_st [s', l'] [a, l] s
    have hcut := cut42 (.int s') (.int l') (.int t') (.int m')
    simp only [stD, List.map_cons, List.map_nil, List.take, List.drop, sitD] at e1 ⊢
    generalize ls0.map D.int = L at *
    generalize ((j : Nat) : Int) = jj at *
    generalize kD kd = KD at *
    by_cases hc : [s', l'] = [a, l]
    · rw [decide_eq_true hc] at e1
      rw [if_pos hc]
      simp [e_var, e_int, e_bl, e_non, e_str, e_tyn, e_con, e_bin, e_neg, e_cmp, e_chain, e_and, e_or, e_not, e_ite, e_tup, e_lst, e_idx, e_slc, e_dnewT, e_dgetT, e_fz, e_attr, e_isi, e_sset, e_new, e_call, e_bi, e_heard2, e_app, e_me, es_nil, es_cons, ts_nil, ts_cons, eo_none, eo_some, ec_none, ec_some, i_seq, i_rng, i_zip, i_enum, s_asg, s_par2, s_asgLc, s_asgLcF, s_put, s_putT, s_sat, s_ite, s_ret, s_ret0, s_raise, s_expr, ss_nil, ss_cons, Fl.then, Fl.res, Fn.fill, cmpT, lcF, wipeE, lmE, e1, hcut, hat, l2, l3]
    · rw [decide_eq_false hc] at e1
      rw [if_neg hc]
      simp [e_var, e_int, e_bl, e_non, e_str, e_tyn, e_con, e_bin, e_neg, e_cmp, e_chain, e_and, e_or, e_not, e_ite, e_tup, e_lst, e_idx, e_slc, e_dnewT, e_dgetT, e_fz, e_attr, e_isi, e_sset, e_new, e_call, e_bi, e_heard2, e_app, e_me, es_nil, es_cons, ts_nil, ts_cons, eo_none, eo_some, ec_none, ec_some, i_seq, i_rng, i_zip, i_enum, s_asg, s_par2, s_asgLc, s_asgLcF, s_put, s_putT, s_sat, s_ite, s_ret, s_ret0, s_raise, s_expr, ss_nil, ss_cons, Fl.then, Fl.res, Fn.fill, cmpT, lcF, wipeE, lmE, e1, hcut, hat, l2, l3]) (LIM_le (by simp; omega))
  rw [List.nil_append] at this
  simp only [List.map_cons, List.map_nil]
  rw [this]
  congr 2
  simp only [lk, List.map_map]
  generalize kd.steps = S
  clear this hkd hlen
  induction S with
  | nil => rfl
  | cons r S ih =>
    rw [List.filterMap_cons, List.filter_cons]
    by_cases hc : r.take 2 = [a, l]
    · simp only [hc, if_true, decide_true, List.map_cons, ih]
      rfl
    · simp only [hc, if_false, decide_false, ih]
      rfl
theorem lm_loop (k : Nat) {s : Sto} {st : Int} (K : D) (a : Int) (ls0 : List Int) :
    ∀ (ks' : List Kd) (ls : List Int) (i0 : Nat) (acc : List (List Int)) (o3 o4 : Option D), (∀ kd ∈ ks', KOk st kd) → (∀ (j : Nat) (l : Int), ls[j]? = some l → ls0[i0 + j]? = some l) → ls.length = ks'.length → acc.length + 63 * ls.length ≤ 1000 →
      ∃ q3 q4 : Option D, forLoop (forF (enTg 3 4) (evSs (run tb wf k) wf lmB)) [] (((ks'.map kD).zipIdx i0).map fun p => .tup [.int (p.2 : Nat), p.1]) (lmE K (sitD a ls0) s.length o3 o4) (s ++ [.lst (acc.map stD)]) =
        .nx (lmE K (sitD a ls0) s.length q3 q4) (s ++ [.lst ((acc ++ mvF a i0 ks' ls).map stD)])
  | [], ls, i0, acc, o3, o4, _, _, hl, _ => ⟨o3, o4, by simp [forLoop, stands, mvF]⟩
  | kd :: ks', [], i0, acc, o3, o4, _, _, hl, _ => by simp at hl
  | kd :: ks', l :: ls, i0, acc, o3, o4, hk, hls, hl, hb => by
    simp only [List.length_cons] at hl hb
    have hkd : KOk st kd := hk kd (by simp)
    have hlk := lk_len hkd a l
    obtain ⟨q3, q4, e2⟩ := lm_loop k (s := s) K a ls0 ks' ls (i0 + 1) (acc ++ (lk kd.steps a l).map fun r => ((i0 : Nat) : Int) :: r) (some (.int (i0 : Nat))) (some (kD kd)) (fun kd' h => hk kd' (by simp [h])) (fun j l' hj => by have := hls (j + 1) l' (by simpa using hj); rw [← this]; congr 1; omega) (by omega) (by simp; omega)
    refine ⟨q3, q4, ?_⟩
    have hc := lm_lc (tb := tb) (wf := wf) k (s ++ [.lst (acc.map stD)]) hkd K a l ls0 s.length i0 (hls 0 l rfl)
    have at_ : (s ++ [O.lst (acc.map stD)])[s.length]? = some (.lst (acc.map stD)) := by simp
    have hx := extT_loc at_ (ys := ((lk kd.steps a l).map fun r => ((i0 : Nat) : Int) :: r).map stD) (LIM_le (by simp; omega))
    have hil := isLst_loc at_
    have hset : (s ++ [O.lst (acc.map stD)]).set s.length (.lst (acc.map stD ++ ((lk kd.steps a l).map fun r => ((i0 : Nat) : Int) :: r).map stD)) = s ++ [.lst ((acc ++ (lk kd.steps a l).map fun r => ((i0 : Nat) : Int) :: r).map stD)] := by
      simp [List.set_append_right]
    rw [hset] at hx
    have e0 : forF (enTg 3 4) (evSs (run tb wf k) wf lmB) (.tup [.int (i0 : Nat), kD kd]) (lmE K (sitD a ls0) s.length o3 o4) (s ++ [.lst (acc.map stD)]) =
        .nx (lmE K (sitD a ls0) s.length (some (.int (i0 : Nat))) (some (kD kd))) (s ++ [.lst ((acc ++ (lk kd.steps a l).map fun r => ((i0 : Nat) : Int) :: r).map stD)]) := by
      generalize (acc ++ (lk kd.steps a l).map fun r => ((i0 : Nat) : Int) :: r).map stD = A2 at *
      generalize ((lk kd.steps a l).map fun r => ((i0 : Nat) : Int) :: r).map stD = A1 at *
      generalize acc.map stD = A0 at *
      generalize ((i0 : Nat) : Int) = ii at *
      generalize kD kd = KD at *
      generalize sitD a ls0 = SD at *
      simp only [lmE] at hc
      simp [e_var, e_int, e_bl, e_non, e_str, e_tyn, e_con, e_bin, e_neg, e_cmp, e_chain, e_and, e_or, e_not, e_ite, e_tup, e_lst, e_idx, e_slc, e_dnewT, e_dgetT, e_fz, e_attr, e_isi, e_sset, e_new, e_call, e_bi, e_heard2, e_app, e_me, es_nil, es_cons, ts_nil, ts_cons, eo_none, eo_some, ec_none, ec_some, i_seq, i_rng, i_zip, i_enum, s_asg, s_par2, s_asgLc, s_asgLcF, s_put, s_putT, s_sat, s_ite, s_ret, s_ret0, s_raise, s_expr, ss_nil, ss_cons, Fl.then, Fl.res, Fn.fill, cmpT, forF_ap, enTg, lmB, f__law_moves, nth, forB, lmE, hil, hc, hx]
    simp only [List.map_cons, List.zipIdx_cons, forLoop, stands, List.all_nil, if_true, e0, Fl.turn]
    rw [e2]
    simp [mvF]
theorem law_moves (T : H__law_moves tb) (k : Nat) {s : Sto} {st : Int} {ks : List Kd} (hk : ∀ kd ∈ ks, KOk st kd) (hl : ks.length ≤ 3) {a : Int} {ls : List Int} (hs : SitOk st ks a ls) :
    run tb wf (k+1) "_law_moves" [.fro (ks.map kD), sitD a ls] s = .ok (.l ((mvF a 0 ks ls).map stD)) s := by
  have hlen := hs.len
  obtain ⟨q3, q4, ef⟩ := lm_loop (tb := tb) (wf := wf) k (s := s) (.fro (ks.map kD)) a ls ks ls 0 [] none none hk (fun j l hj => by simpa using hj) hlen (by simp; omega)
  have hf := s_for (cf := run tb wf k) (wf := wf) (t := enTg 3 4) (it := .enum (.var 0)) (b := lmB) (ρ := lmE (.fro (ks.map kD)) (sitD a ls) s.length none none) (s := s ++ [.lst []]) (s' := s ++ [.lst []]) (I := ⟨(ks.map kD).zipIdx.map fun p => .tup [.int (p.2 : Nat), p.1], []⟩) (by simp [e_var, e_int, e_bl, e_non, e_str, e_tyn, e_con, e_bin, e_neg, e_cmp, e_chain, e_and, e_or, e_not, e_ite, e_tup, e_lst, e_idx, e_slc, e_dnewT, e_dgetT, e_fz, e_attr, e_isi, e_sset, e_new, e_call, e_bi, e_heard2, e_app, e_me, es_nil, es_cons, ts_nil, ts_cons, eo_none, eo_some, ec_none, ec_some, i_seq, i_rng, i_zip, i_enum, s_asg, s_par2, s_asgLc, s_asgLcF, s_put, s_putT, s_sat, s_ite, s_ret, s_ret0, s_raise, s_expr, ss_nil, ss_cons, Fl.then, Fl.res, Fn.fill, cmpT, lmE])
  simp only [List.map_nil, List.nil_append] at hf ef
  rw [ef] at hf
  have at_ : (s ++ [O.lst ((mvF a 0 ks ls).map stD)])[s.length]? = some (.lst ((mvF a 0 ks ls).map stD)) := by simp
  have ht := (Kp.app s [.lst ((mvF a 0 ks ls).map stD)]).ll (Nat.le_refl _) at_ (unders_le (Nat.zero_le _) _ (pls_under _ (st_pls _)))
  have l0 : 0 ≤ LIM := by decide
  rw [run, T._law_moves]
  simp only [lmB, enTg, f__law_moves, nth, forB, lmE] at hf ⊢
  generalize (mvF a 0 ks ls).map stD = X at *
  generalize ks.map kD = K at *
  generalize sitD a ls = S at *
  simp [e_var, e_int, e_bl, e_non, e_str, e_tyn, e_con, e_bin, e_neg, e_cmp, e_chain, e_and, e_or, e_not, e_ite, e_tup, e_lst, e_idx, e_slc, e_dnewT, e_dgetT, e_fz, e_attr, e_isi, e_sset, e_new, e_call, e_bi, e_heard2, e_app, e_me, es_nil, es_cons, ts_nil, ts_cons, eo_none, eo_some, ec_none, ec_some, i_seq, i_rng, i_zip, i_enum, s_asg, s_par2, s_asgLc, s_asgLcF, s_put, s_putT, s_sat, s_ite, s_ret, s_ret0, s_raise, s_expr, ss_nil, ss_cons, Fl.then, Fl.res, Fn.fill, cmpT, hf, ht, l0]
/-! ### any situation -/
def atLc : E := .lc [("kind", 3)] (.nm 3) (.seq (.var 2)) .none (.call "_law_dip" (.cons (.var 0) (.cons (.idx (.var 3) (.int 0)) .nil)))
theorem at_loop (T : H__law_dip tb) (k : Nat) {r : Sto} (x1 x2 : D) : ∀ (ks : List Kd) (n : Int) (w : Int × Int × Int) (acc : List D), Ok n w → n + ks.length ≤ 1000000000 → (∀ kd ∈ ks, 1 ≤ kd.many ∧ kd.many ≤ 3) → acc.length + ks.length ≤ 1000 →
    ∃ (ls : List Int) (w' : Int × Int × Int), ls.length = ks.length ∧ (∀ (i : Nat) (kd : Kd) (l : Int), ks[i]? = some kd → ls[i]? = some l → 0 ≤ l ∧ l < kd.many) ∧ Ok (n + ks.length) w' ∧
      lcLoop (lcF (.nm 3) [3] [some (.loc 0), some x1, some x2, none] (evC (run tb wf (k+1)) .none) (evE (run tb wf (k+1)) (.call "_law_dip" (.cons (.var 0) (.cons (.idx (.var 3) (.int 0)) .nil))))) [] (ks.map kD) acc (Wl w r) = .ok (.l (acc ++ ls.map .int)) (Wl w' r)
  | [], n, w, acc, hw, _, _, _ => ⟨[], w, rfl, by simp, by simpa using hw, by simp [lcLoop, stands]⟩
  | kd :: ks, n, w, acc, hw, hn, hk, hl => by
    simp only [List.length_cons] at hn hl
    obtain ⟨m1, m3⟩ := hk kd (by simp)
    obtain ⟨d, w1, d0, d1, o1, e1⟩ := dip (wf := wf) T k (m := kd.many) (r := r) hw (by omega) (by omega) (by omega)
    obtain ⟨ls, w2, h1, h2, o2, e2⟩ := at_loop T k (r := r) x1 x2 ks (n + 1) w1 (acc ++ [.int d]) o1 (by omega) (fun kd' h => hk kd' (by simp [h])) (by simp; omega)
    refine ⟨d :: ls, w2, by simp [h1], fun i kd' l g1 g2 => ?_, ?_, ?_⟩
    · cases i with
      | zero =>
        simp at g1 g2
        subst g1 g2
        exact ⟨d0, d1⟩
      | succ i => exact h2 i kd' l (by simpa using g1) (by simpa using g2)
    · have : n + ((kd :: ks).length : Nat) = n + 1 + (ks.length : Nat) := by simp; omega
      rw [this]
      exact o2
    · have hlt : acc.length < LIM := LIM_lt (by omega)
      have e0 : lcF (.nm 3) [3] [some (.loc 0), some x1, some x2, none] (evC (run tb wf (k+1)) .none) (evE (run tb wf (k+1)) (.call "_law_dip" (.cons (.var 0) (.cons (.idx (.var 3) (.int 0)) .nil)))) (kD kd) (Wl w r) = .ok (some (.int d)) (Wl w1 r) := by
        simp [e_var, e_int, e_bl, e_non, e_str, e_tyn, e_con, e_bin, e_neg, e_cmp, e_chain, e_and, e_or, e_not, e_ite, e_tup, e_lst, e_idx, e_slc, e_dnewT, e_dgetT, e_fz, e_attr, e_isi, e_sset, e_new, e_call, e_bi, e_heard2, e_app, e_me, es_nil, es_cons, ts_nil, ts_cons, eo_none, eo_some, ec_none, ec_some, i_seq, i_rng, i_zip, i_enum, s_asg, s_par2, s_asgLc, s_asgLcF, s_put, s_putT, s_sat, s_ite, s_ret, s_ret0, s_raise, s_expr, ss_nil, ss_cons, Fl.then, Fl.res, Fn.fill, cmpT, lcF, wipeE, kD, e1]
      rw [List.map_cons, lcLoop]
      simp only [stands, List.all_nil, if_true, e0, hlt]
      rw [e2]
      simp
theorem law_any (T : H__law_any_there tb) (k : Nat) {r : Sto} {st : Int} {ks : List Kd} (hk : ∀ kd ∈ ks, KOk st kd) (hl : ks.length ≤ 3) (h1 : 1 ≤ st) (h3 : st ≤ 3) {n : Int} {w : Int × Int × Int} (hw : Ok n w) (hn : n + 10 ≤ 1000000000) :
    ∃ (a : Int) (ls : List Int) (w' : Int × Int × Int), SitOk st ks a ls ∧ Ok (n + 10) w' ∧ run tb wf (k+2) "_law_any_there" [.loc 0, .int st, .fro (ks.map kD)] (Wl w r) = .ok (.v (sitD a ls)) (Wl w' r) := by
  obtain ⟨a, w1, a0, a1, o1, e1⟩ := dip (wf := wf) T.toH__law_dip k (m := st) (r := r) hw (by omega) (by omega) (by omega)
  obtain ⟨ls, w2, b1, b2, o2, e2⟩ := at_loop (wf := wf) T.toH__law_dip k (r := r) (.int st) (.fro (ks.map kD)) ks (n + 1) w1 [] o1 (by omega) (fun kd h => ⟨(hk kd h).m1, (hk kd h).m3⟩) (by simp; omega)
  refine ⟨a, ls, w2, ⟨a0, a1, b1, b2⟩, o2.le (by omega) hn, ?_⟩
  have hc : evE (run tb wf (k+1)) atLc [some (.loc 0), some (.int st), some (.fro (ks.map kD)), none] (Wl w1 r) = .ok (.l (ls.map .int)) (Wl w2 r) := by
    unfold atLc
    rw [e_lc (I := ⟨ks.map kD, []⟩) (s' := Wl w1 r) (by simp [e_var, e_int, e_bl, e_non, e_str, e_tyn, e_con, e_bin, e_neg, e_cmp, e_chain, e_and, e_or, e_not, e_ite, e_tup, e_lst, e_idx, e_slc, e_dnewT, e_dgetT, e_fz, e_attr, e_isi, e_sset, e_new, e_call, e_bi, e_heard2, e_app, e_me, es_nil, es_cons, ts_nil, ts_cons, eo_none, eo_some, ec_none, ec_some, i_seq, i_rng, i_zip, i_enum, s_asg, s_par2, s_asgLc, s_asgLcF, s_put, s_putT, s_sat, s_ite, s_ret, s_ret0, s_raise, s_expr, ss_nil, ss_cons, Fl.then, Fl.res, Fn.fill, cmpT])]
    simp only [List.map_cons, List.map_nil]
    rw [e2, List.nil_append]
  have l2 : 2 ≤ LIM := by decide
  have ht := (Kp.w0 w w2 r).n (pl_under _ (sit_pl a ls))
  simp only [sitD, atLc] at ht hc ⊢
  generalize ks.map kD = K at *
  generalize ls.map D.int = L at *
  rw [run, T._law_any_there]
  simp [e_var, e_int, e_bl, e_non, e_str, e_tyn, e_con, e_bin, e_neg, e_cmp, e_chain, e_and, e_or, e_not, e_ite, e_tup, e_lst, e_idx, e_slc, e_dnewT, e_dgetT, e_fz, e_attr, e_isi, e_sset, e_new, e_call, e_bi, e_heard2, e_app, e_me, es_nil, es_cons, ts_nil, ts_cons, eo_none, eo_some, ec_none, ec_some, i_seq, i_rng, i_zip, i_enum, s_asg, s_par2, s_asgLc, s_asgLcF, s_put, s_putT, s_sat, s_ite, s_ret, s_ret0, s_raise, s_expr, ss_nil, ss_cons, Fl.then, Fl.res, Fn.fill, cmpT, f__law_any_there, e1, hc, l2, ht]
end
end Fam
end
section
set_option Elab.async false
set_option linter.all false
set_option maxRecDepth 100000
set_option maxHeartbeats 1000000
set_option linter.unusedSimpArgs false
/-! Mo: moves told right: statement by statement. -/
namespace Fam
open Fy
open PySem (PyData)
theorem b_addfl (s : Sto) (a b : List D) : binT .add (.v (.fro a)) (.l b) s = if a.length + b.length ≤ LIM then some (.l (a ++ b)) else none := rfl
/-- a value to be asked for that is no rest -/
structure Od (d : D) : Prop extends Odd d where
  r : restB d = false
  l : ∀ xs, d = .tup xs → xs.length ≤ 1000
theorem Od.st3 (i t m : Int) : Od (stD [i, t, m]) := ⟨odd_st _, rfl, fun xs h => by cases h; simp⟩
theorem Od.non : Od .non := by exact ⟨⟨by simp [pl, pls], _, rfl, by first | rfl | (simp [PySem.SeqAt.shaped, PyData.canLay0, PyData.canLayAll0, PyData.depth, PyData.depthAll]; done)⟩, rfl, fun xs h => by first | (cases h; done) | (cases h; simp)⟩
theorem Od.int (i : Int) : Od (.int i) := by exact ⟨⟨by simp [pl, pls], _, rfl, by first | rfl | (simp [PySem.SeqAt.shaped, PyData.canLay0, PyData.canLayAll0, PyData.depth, PyData.depthAll]; done)⟩, rfl, fun xs h => by first | (cases h; done) | (cases h; simp)⟩
theorem Od.fro0 : Od (.fro []) := by exact ⟨⟨by simp [pl, pls], _, rfl, by first | rfl | (simp [PySem.SeqAt.shaped, PyData.canLay0, PyData.canLayAll0, PyData.depth, PyData.depthAll]; done)⟩, rfl, fun xs h => by first | (cases h; done) | (cases h; simp)⟩
theorem Od.rest : Od (.str "rest") := ⟨⟨rfl, _, rfl, by decide +kernel⟩, rfl, fun xs h => by cases h⟩
theorem Od.tup1 (i : Int) : Od (.tup [.int i]) := by exact ⟨⟨by simp [pl, pls], _, rfl, by first | rfl | (simp [PySem.SeqAt.shaped, PyData.canLay0, PyData.canLayAll0, PyData.depth, PyData.depthAll]; done)⟩, rfl, fun xs h => by first | (cases h; done) | (cases h; simp)⟩
theorem Od.tupt : Od (.tup [.tup []]) := by exact ⟨⟨by simp [pl, pls], _, rfl, by first | rfl | (simp [PySem.SeqAt.shaped, PyData.canLay0, PyData.canLayAll0, PyData.depth, PyData.depthAll]; done)⟩, rfl, fun xs h => by first | (cases h; done) | (cases h; simp)⟩
theorem Od.fro3 (i t m : Int) : Od (.fro [.int i, .int t, .int m]) := by exact ⟨⟨by simp [pl, pls], _, rfl, by first | rfl | (simp [PySem.SeqAt.shaped, PyData.canLay0, PyData.canLayAll0, PyData.depth, PyData.depthAll]; done)⟩, rfl, fun xs h => by first | (cases h; done) | (cases h; simp)⟩
theorem Od.tup2 (i t : Int) : Od (.tup [.int i, .int t]) := by exact ⟨⟨by simp [pl, pls], _, rfl, by first | rfl | (simp [PySem.SeqAt.shaped, PyData.canLay0, PyData.canLayAll0, PyData.depth, PyData.depthAll]; done)⟩, rfl, fun xs h => by first | (cases h; done) | (cases h; simp)⟩
theorem Od.tup4 (i t m z : Int) : Od (.tup [.int i, .int t, .int m, .int z]) := by exact ⟨⟨by simp [pl, pls], _, rfl, by first | rfl | (simp [PySem.SeqAt.shaped, PyData.canLay0, PyData.canLayAll0, PyData.depth, PyData.depthAll]; done)⟩, rfl, fun xs h => by first | (cases h; done) | (cases h; simp)⟩
theorem Od.b1 (b : Bool) (t m : Int) : Od (.tup [.bl b, .int t, .int m]) := by exact ⟨⟨by simp [pl, pls], _, rfl, by first | rfl | (simp [PySem.SeqAt.shaped, PyData.canLay0, PyData.canLayAll0, PyData.depth, PyData.depthAll]; done)⟩, rfl, fun xs h => by first | (cases h; done) | (cases h; simp)⟩
theorem Od.b2 (b : Bool) (t m : Int) : Od (.tup [.int t, .bl b, .int m]) := by exact ⟨⟨by simp [pl, pls], _, rfl, by first | rfl | (simp [PySem.SeqAt.shaped, PyData.canLay0, PyData.canLayAll0, PyData.depth, PyData.depthAll]; done)⟩, rfl, fun xs h => by first | (cases h; done) | (cases h; simp)⟩
theorem Od.b3 (b : Bool) (t m : Int) : Od (.tup [.int t, .int m, .bl b]) := by exact ⟨⟨by simp [pl, pls], _, rfl, by first | rfl | (simp [PySem.SeqAt.shaped, PyData.canLay0, PyData.canLayAll0, PyData.depth, PyData.depthAll]; done)⟩, rfl, fun xs h => by first | (cases h; done) | (cases h; simp)⟩
abbrev mtE (n : Nat) (st : Int) (K S M : D) (o6 o7 o8 o9 o10 o11 o12 : Option D) : Env := [some (.loc 0), some (.loc n), some (.int st), some K, some S, some M, o6, o7, o8, o9, o10, o11, o12, none, none]
section
variable {tb : Tab} {wf : Nat}
theorem like0 (T : H__law_like tb) (k : Nat) (s : Sto) (b : Bool) : run tb wf (k+1) "_law_like" [.bl b, .bl b] s = .ok (.v (.bl true)) s := like (wf := wf) T 0 k s (.bl b) rfl
theorem like_sit (T : H__law_like tb) (k : Nat) (s : Sto) (a : Int) (ls : List Int) (hl : ls.length ≤ 1000) : run tb wf (k+3) "_law_like" [sitD a ls, sitD a ls] s = .ok (.v (.bl true)) s := by
  refine like (wf := wf) T 2 k s (sitD a ls) ?_
  have h2 : ls.length ≤ 100000 := by omega
  simp [sitD, dep, flat, h2]
theorem like_mv (T : H__law_like tb) (k : Nat) (s : Sto) (mv : List (List Int)) (hl : mv.length ≤ 1000) (h3 : ∀ r ∈ mv, r.length ≤ 3) : run tb wf (k+3) "_law_like" [.tup (mv.map stD), .tup (mv.map stD)] s = .ok (.v (.bl true)) s := by
  refine like (wf := wf) T 2 k s _ ?_
  have h2 : mv.length ≤ 100000 := by omega
  simp only [dep, List.length_map, decide_eq_true h2, Bool.true_and, List.all_map, List.all_eq_true, Function.comp]
  intro r hr
  have : r.length ≤ 100000 := by have := h3 r hr; omega
  simp [stD, dep, flat, this]
theorem mv3 {st : Int} {ks : List Kd} (hk : ∀ kd ∈ ks, KOk st kd) {a : Int} {ls : List Int} : ∀ r ∈ mvF a 0 ks ls, r.length ≤ 3 := fun r hr => by
  obtain ⟨j, kd, l, t, m, h1, h2, h3, rfl, h5, h6⟩ := mv_move hk hr
  simp
/-! ### the moves, each -/
def mtB : Ss := forB (nth f__law_moves_told.body 2)
theorem mt_turn (T : H__law_moves_told tb) (k : Nat) {s : Sto} {n : Nat} {st start : Int} {ks : List Kd} (h : TeamAt s n st start ks []) (hk : ∀ kd ∈ ks, KOk st kd) (hl : ks.length ≤ 3) {a : Int} {ls : List Int} (hs : SitOk st ks a ls) {r : List Int} (hr : r ∈ mvF a 0 ks ls ∨ r = []) (K M : D) (o6 o7 o8 o9 o10 o11 o12 : Option D) :
    forF (.nm 6) (evSs (run tb wf (k+6)) wf mtB) (stD r) (mtE n st K (sitD a ls) M o6 o7 o8 o9 o10 o11 o12) s = .nx (mtE n st K (sitD a ls) M (some (stD r)) (some (sitD (ledS a ls r).1 (ledS a ls r).2)) o8 o9 o10 o11 o12) s := by
  have hlo := led_ok hk hs hr
  have hlo2 := hlo.len
  have e1 := law_led (wf := wf) T.toH__law_led (k+5) (s := s) hk hl hs hr
  have e2 := is_move_at (wf := wf) T.toH_is_move_at (k+1) h hk hs (st_pl r)
  have e3 := gone (wf := wf) T.toH_gone k h hk hl hs hr
  have e4 := led (wf := wf) T.toH_led (k+5) (s := s) hk hl hs hr
  have e5 := is_rest (wf := wf) T.toH_is_rest (k+5) s (st_pl r)
  have e6 := like_sit (wf := wf) T.toH__law_like (k+3) s (ledS a ls r).1 (ledS a ls r).2 (by omega)
  have e7 := eq_st r [] s
  have hb : (restB (stD r) || inMv (mvF a 0 ks ls) (stD r)) = true := by
    rcases hr with hr | rfl
    · rw [inMv_st]; simp [hr]
    · rfl
  rw [hb] at e2
  have hb2 : restB (stD r) = decide (r = []) := by cases r <;> rfl
  rw [hb2] at e5
  have e8 := like0 (wf := wf) T.toH__law_like (k+5) s (decide (r = []))
  have e9 : stD [] = .tup [] := rfl
  rw [e9] at e7
  generalize decide (r = []) = B at *
  generalize sitD (ledS a ls r).1 (ledS a ls r).2 = S2 at *
  generalize sitD a ls = S at *
  generalize stD r = R at *
  have l0 : 0 ≤ LIM := by decide
  simp [e_var, e_int, e_bl, e_non, e_str, e_tyn, e_con, e_bin, e_neg, e_cmp, e_chain, e_and, e_or, e_not, e_ite, e_tup, e_lst, e_idx, e_slc, e_dnewT, e_dgetT, e_fz, e_attr, e_isi, e_sset, e_new, e_call, e_bi, e_heard2, e_app, e_me, es_nil, es_cons, ts_nil, ts_cons, eo_none, eo_some, ec_none, ec_some, i_seq, i_rng, i_zip, i_enum, s_asg, s_par2, s_asgLc, s_asgLcF, s_put, s_putT, s_sat, s_ite, s_ret, s_ret0, s_raise, s_expr, ss_nil, ss_cons, Fl.then, Fl.res, Fn.fill, cmpT, forF_ap, mtB, f__law_moves_told, nth, forB, mtE, e1, e2, e3, e4, e5, e6, e7, e8, l0]
theorem mt_loop (T : H__law_moves_told tb) (k : Nat) {s : Sto} {n : Nat} {st start : Int} {ks : List Kd} (h : TeamAt s n st start ks []) (hk : ∀ kd ∈ ks, KOk st kd) (hl : ks.length ≤ 3) {a : Int} {ls : List Int} (hs : SitOk st ks a ls) (K M : D) (o8 o9 o10 o11 o12 : Option D) :
    ∀ (rs : List (List Int)) (o6 o7 : Option D), (∀ r ∈ rs, r ∈ mvF a 0 ks ls ∨ r = []) → ∃ q6 q7 : Option D, forLoop (forF (.nm 6) (evSs (run tb wf (k+6)) wf mtB)) [] (rs.map stD) (mtE n st K (sitD a ls) M o6 o7 o8 o9 o10 o11 o12) s = .nx (mtE n st K (sitD a ls) M q6 q7 o8 o9 o10 o11 o12) s
  | [], o6, o7, _ => ⟨o6, o7, by simp [forLoop, stands]⟩
  | r :: rs, o6, o7, hr => by
    have e := mt_turn (wf := wf) T k h hk hl hs (hr r (by simp)) K M o6 o7 o8 o9 o10 o11 o12
    obtain ⟨q6, q7, e2⟩ := mt_loop T k h hk hl hs K M o8 o9 o10 o11 o12 rs (some (stD r)) (some (sitD (ledS a ls r).1 (ledS a ls r).2)) (fun r hm => hr r (by simp [hm]))
    refine ⟨q6, q7, ?_⟩
    simp only [List.map_cons, forLoop, stands, List.all_nil, if_true, e, Fl.turn]
    exact e2
/-! ### the odd ones, each -/
def moB : Ss := forB (nth f__law_moves_told.body 7)
theorem parts (k : Nat) (s : Sto) (ρ : Env) (xs : List D) (hp : pls xs = true) (hl : xs.length ≤ 1000) (h11 : ρ[11]? = some (some (.tup xs))) (hρ : ρ.length = 15) :
    evE (run tb wf k) (.lc [("part", 14)] (.nm 14) (.seq (.var 11)) .none (.bi .isinst (.cons (.var 14) (.cons (.tyn "bool" "bool") .nil)))) ρ s = .ok (.l (xs.map fun x => .bl (isBl x))) s := by
  rw [e_lc (I := ⟨xs, []⟩) (s' := s) (by simp [e_var, e_int, e_bl, e_non, e_str, e_tyn, e_con, e_bin, e_neg, e_cmp, e_chain, e_and, e_or, e_not, e_ite, e_tup, e_lst, e_idx, e_slc, e_dnewT, e_dgetT, e_fz, e_attr, e_isi, e_sset, e_new, e_call, e_bi, e_heard2, e_app, e_me, es_nil, es_cons, ts_nil, ts_cons, eo_none, eo_some, ec_none, ec_some, i_seq, i_rng, i_zip, i_enum, s_asg, s_par2, s_asgLc, s_asgLcF, s_put, s_putT, s_sat, s_ite, s_ret, s_ret0, s_raise, s_expr, ss_nil, ss_cons, Fl.then, Fl.res, Fn.fill, cmpT, h11])]
  have := lc_map (A := id) (G := fun x => D.bl (isBl x)) (s := s) (src := []) (F := lcF (.nm 14) [14] ρ (evC (run tb wf k) .none) (evE (run tb wf k) (.bi .isinst (.cons (.var 14) (.cons (.tyn "bool" "bool") .nil))))) rfl xs (fun x hx => by
    have hx := pls_mem hp x hx
    have hw : ((wipeE ρ [14]).set 14 (some x))[14]? = some (some x) := List.getElem?_set_self (by simp [wipeE]; omega)
    unfold lcF
    rw [id, bt_nm]
    generalize (wipeE ρ [14]).set 14 (some x) = ρ' at hw
    cases x <;> first | (simp [pl] at hx; done) | simp [e_var, e_int, e_bl, e_non, e_str, e_tyn, e_con, e_bin, e_neg, e_cmp, e_chain, e_and, e_or, e_not, e_ite, e_tup, e_lst, e_idx, e_slc, e_dnewT, e_dgetT, e_fz, e_attr, e_isi, e_sset, e_new, e_call, e_bi, e_heard2, e_app, e_me, es_nil, es_cons, ts_nil, ts_cons, eo_none, eo_some, ec_none, ec_some, i_seq, i_rng, i_zip, i_enum, s_asg, s_par2, s_asgLc, s_asgLcF, s_put, s_putT, s_sat, s_ite, s_ret, s_ret0, s_raise, s_expr, ss_nil, ss_cons, Fl.then, Fl.res, Fn.fill, cmpT, hw, kinds, isSub, isBl]) (LIM_le (by omega))
  rw [List.map_id] at this
  exact this
theorem mo_turn (T : H__law_moves_told tb) (k : Nat) {s : Sto} {n : Nat} {st start : Int} {ks : List Kd} (h : TeamAt s n st start ks []) (hk : ∀ kd ∈ ks, KOk st kd) {a : Int} {ls : List Int} (hs : SitOk st ks a ls) {d : D} (hd : Od d) (K : D) (o6 o7 o8 o9 o10 o11 o12 : Option D) :
    forF (.nm 11) (evSs (run tb wf (k+6)) wf moB) d (mtE n st K (sitD a ls) (.fro ((mvF a 0 ks ls).map stD)) o6 o7 o8 o9 o10 o11 o12) s = .nx (mtE n st K (sitD a ls) (.fro ((mvF a 0 ks ls).map stD)) o6 o7 o8 o9 o10 (some d) (some (.bl (inMv (mvF a 0 ks ls) d)))) s := by
  have e2 := is_move_at (wf := wf) T.toH_is_move_at (k+1) h hk hs hd.p
  have e5 := is_rest (wf := wf) T.toH_is_rest (k+5) s hd.p
  rw [hd.r] at e5
  rw [hd.r, Bool.false_or] at e2
  have e8 := fun b => like0 (wf := wf) T.toH__law_like (k+5) s b
  have e9 : inMv (mvF a 0 ks ls) d = false → run tb wf (k+6) "gone" [.loc n, sitD a ls, d] s = .ex ⟨"Refused", .str "move"⟩ s := fun h0 => gone_no (wf := wf) T.toH_gone k h hk hs hd.p hd.r h0
  have key : (∃ xs, d = .tup xs) ∨ ((inMv (mvF a 0 ks ls) d = false) ∧ ∀ s, biT .isinst [.v d, .v (.ty "tuple")] s = some (.v (.bl false))) := by
    have := hd.p
    cases d with
    | tup xs => exact .inl ⟨xs, rfl⟩
    | _ => first | (simp [pl] at this; done) | (right; exact ⟨rfl, fun s => by simp [kinds, isSub]⟩)
  rcases key with ⟨xs, rfl⟩ | ⟨h0, ei⟩
  · obtain ⟨b, b1, b2⟩ := in_mv (mvF a 0 ks ls) (.fro ((mvF a 0 ks ls).map stD)) (.inl rfl) xs hd.toOdd s
    have ei : biT .isinst [.v (.tup xs), .v (.ty "tuple")] s = some (.v (.bl true)) := by simp [kinds, isSub]
    have hpt := parts (tb := tb) (wf := wf) (k+6) s (mtE n st K (sitD a ls) (.fro ((mvF a 0 ks ls).map stD)) o6 o7 o8 o9 o10 (some (.tup xs)) o12) xs (odd_tup1 (n := 0) hd.p) (hd.l xs rfl) rfl rfl
    have hbs := bools_map isBl xs
    have hany : (xs.map isBl).any id = xs.any isBl := by simp [List.any_map]
    generalize (xs.map fun x => D.bl (isBl x)) = XB at *
    generalize xs.map isBl = XC at *
    generalize inMv (mvF a 0 ks ls) (.tup xs) = R at *
    generalize (mvF a 0 ks ls).map stD = M at *
    generalize sitD a ls = S at *
    generalize xs.any isBl = A at *
    generalize D.tup xs = X at *
    simp only [mtE] at hpt
    cases b <;> cases A <;> simp at b2 <;> subst b2
    all_goals simp [e_var, e_int, e_bl, e_non, e_str, e_tyn, e_con, e_bin, e_neg, e_cmp, e_chain, e_and, e_or, e_not, e_ite, e_tup, e_lst, e_idx, e_slc, e_dnewT, e_dgetT, e_fz, e_attr, e_isi, e_sset, e_new, e_call, e_bi, e_heard2, e_app, e_me, es_nil, es_cons, ts_nil, ts_cons, eo_none, eo_some, ec_none, ec_some, i_seq, i_rng, i_zip, i_enum, s_asg, s_par2, s_asgLc, s_asgLcF, s_put, s_putT, s_sat, s_ite, s_ret, s_ret0, s_raise, s_expr, ss_nil, ss_cons, Fl.then, Fl.res, Fn.fill, cmpT, forF_ap, moB, f__law_moves_told, nth, forB, mtE, ei, b1, hpt, hbs, hany, e2, e5, e8, e9]
  · have e10 := e9 h0
    rw [h0] at e2 ⊢
    generalize (mvF a 0 ks ls).map stD = M at *
    generalize sitD a ls = S at *
    have ei := ei s
    simp [e_var, e_int, e_bl, e_non, e_str, e_tyn, e_con, e_bin, e_neg, e_cmp, e_chain, e_and, e_or, e_not, e_ite, e_tup, e_lst, e_idx, e_slc, e_dnewT, e_dgetT, e_fz, e_attr, e_isi, e_sset, e_new, e_call, e_bi, e_heard2, e_app, e_me, es_nil, es_cons, ts_nil, ts_cons, eo_none, eo_some, ec_none, ec_some, i_seq, i_rng, i_zip, i_enum, s_asg, s_par2, s_asgLc, s_asgLcF, s_put, s_putT, s_sat, s_ite, s_ret, s_ret0, s_raise, s_expr, ss_nil, ss_cons, Fl.then, Fl.res, Fn.fill, cmpT, forF_ap, moB, f__law_moves_told, nth, forB, mtE, ei, e2, e5, e8, e10]
theorem mo_loop (T : H__law_moves_told tb) (k : Nat) {s : Sto} {n : Nat} {st start : Int} {ks : List Kd} (h : TeamAt s n st start ks []) (hk : ∀ kd ∈ ks, KOk st kd) {a : Int} {ls : List Int} (hs : SitOk st ks a ls) (K : D) (o6 o7 o8 o9 o10 : Option D) :
    ∀ (ds : List D) (o11 o12 : Option D), (∀ d ∈ ds, Od d) → ∃ q11 q12 : Option D, forLoop (forF (.nm 11) (evSs (run tb wf (k+6)) wf moB)) [] ds (mtE n st K (sitD a ls) (.fro ((mvF a 0 ks ls).map stD)) o6 o7 o8 o9 o10 o11 o12) s = .nx (mtE n st K (sitD a ls) (.fro ((mvF a 0 ks ls).map stD)) o6 o7 o8 o9 o10 q11 q12) s
  | [], o11, o12, _ => ⟨o11, o12, by simp [forLoop, stands]⟩
  | d :: ds, o11, o12, hd => by
    have e := mo_turn (wf := wf) T k h hk hs (hd d (by simp)) K o6 o7 o8 o9 o10 o11 o12
    obtain ⟨q6, q7, e2⟩ := mo_loop T k h hk hs K o6 o7 o8 o9 o10 ds (some d) (some (.bl (inMv (mvF a 0 ks ls) d))) (fun r hm => hd r (by simp [hm]))
    refine ⟨q6, q7, ?_⟩
    simp only [forLoop, stands, List.all_nil, if_true, e, Fl.turn]
    exact e2
end
end Fam
end
section
set_option Elab.async false
set_option linter.all false
set_option maxRecDepth 100000
set_option maxHeartbeats 1000000
set_option linter.unusedSimpArgs false
/-! Mp: the moves told right. -/
namespace Fam
open Fy
abbrev mtS (i : Nat) : S := nth f__law_moves_told.body i
theorem mt_body : f__law_moves_told.body = .cons (mtS 0) (.cons (mtS 1) (.cons (mtS 2) (.cons (mtS 3) (.cons (mtS 4) (.cons (mtS 5) (.cons (mtS 6) (.cons (mtS 7) (.cons (mtS 8) .nil)))))))) := rfl
def odds10 (m j st : Int) : List D := [stD [m, 0, 0], stD [-1, 0, 0], stD [j, st, 0], stD [j, 0, 64], .non, .fro [], .int 0, .str "rest", .tup [.int j], .tup [.tup []]]
theorem odds10_od (m j st : Int) : ∀ d ∈ odds10 m j st, Od d := fun d h => by
  simp only [odds10, List.mem_cons, List.not_mem_nil, or_false] at h
  rcases h with rfl | rfl | rfl | rfl | rfl | rfl | rfl | rfl | rfl | rfl
  · exact Od.st3 _ _ _
  · exact Od.st3 _ _ _
  · exact Od.st3 _ _ _
  · exact Od.st3 _ _ _
  · exact Od.non
  · exact Od.fro0
  · exact Od.int _
  · exact Od.rest
  · exact Od.tup1 _
  · exact Od.tupt
def odds6 (j t m : Int) : List D := [.fro [.int j, .int t, .int m], .tup [.int j, .int t], .tup [.int j, .int t, .int m, .int 0], .tup [.bl (decide (j = 1)), .int t, .int m], .tup [.int j, .bl (decide (t = 1)), .int m], .tup [.int j, .int t, .bl (decide (m = 1))]]
theorem odds6_od (j t m : Int) : ∀ d ∈ odds6 j t m, Od d := fun d h => by
  simp only [odds6, List.mem_cons, List.not_mem_nil, or_false] at h
  rcases h with rfl | rfl | rfl | rfl | rfl | rfl
  · exact Od.fro3 _ _ _
  · exact Od.tup2 _ _
  · exact Od.tup4 _ _ _ _
  · exact Od.b1 _ _ _
  · exact Od.b2 _ _ _
  · exact Od.b3 _ _ _
theorem cut32 (x y z : D) : cutD [x, y, z] none (some 2) = [x, y] := rfl
section
variable {tb : Tab} {wf : Nat}
theorem mt_s0 (T : H__law_moves_told tb) (k : Nat) {s : Sto} {n : Nat} {st : Int} {ks : List Kd} (hk : ∀ kd ∈ ks, KOk st kd) (hl : ks.length ≤ 3) {a : Int} {ls : List Int} (hs : SitOk st ks a ls) :
    evS (run tb wf (k+1)) wf (mtS 0) [some (.loc 0), some (.loc n), some (.int st), some (.fro (ks.map kD)), some (sitD a ls), none, none, none, none, none, none, none, none, none, none] s =
      .nx (mtE n st (.fro (ks.map kD)) (sitD a ls) (.fro ((mvF a 0 ks ls).map stD)) none none none none none none none) s := by
  have e1 := law_moves (wf := wf) T.toH__law_moves k (s := s) hk hl hs
  generalize (mvF a 0 ks ls).map stD = X at *
  generalize ks.map kD = K at *
  generalize sitD a ls = S at *
  simp [e_var, e_int, e_bl, e_non, e_str, e_tyn, e_con, e_bin, e_neg, e_cmp, e_chain, e_and, e_or, e_not, e_ite, e_tup, e_lst, e_idx, e_slc, e_dnewT, e_dgetT, e_fz, e_attr, e_isi, e_sset, e_new, e_call, e_bi, e_heard2, e_app, e_me, es_nil, es_cons, ts_nil, ts_cons, eo_none, eo_some, ec_none, ec_some, i_seq, i_rng, i_zip, i_enum, s_asg, s_par2, s_asgLc, s_asgLcF, s_put, s_putT, s_sat, s_ite, s_ret, s_ret0, s_raise, s_expr, ss_nil, ss_cons, Fl.then, Fl.res, Fn.fill, cmpT, mtS, f__law_moves_told, nth, mtE, e1, Fy.T.froz]
theorem mt_s1 (T : H__law_moves_told tb) (k : Nat) {s : Sto} {n : Nat} {st start : Int} {ks : List Kd} (h : TeamAt s n st start ks []) (hk : ∀ kd ∈ ks, KOk st kd) (hl : ks.length ≤ 3) {a : Int} {ls : List Int} (hs : SitOk st ks a ls) (K : D) :
    evS (run tb wf (k+3)) wf (mtS 1) (mtE n st K (sitD a ls) (.fro ((mvF a 0 ks ls).map stD)) none none none none none none none) s =
      .nx (mtE n st K (sitD a ls) (.fro ((mvF a 0 ks ls).map stD)) none none none none none none none) s := by
  have hml := mv_len a 0 ks ls hk
  have e1 := moves_at (wf := wf) T.toH_moves_at (k+1) h hk hl hs
  have e2 := is_stuck (wf := wf) T.toH_is_stuck k h hk hl hs
  have e3 := like_mv (wf := wf) T.toH__law_like k s (mvF a 0 ks ls) (by omega) (mv3 hk)
  have e4 := fun b => like0 (wf := wf) T.toH__law_like (k+2) s b
  have e5 := eq_fsts0 (mvF a 0 ks ls) s
  have l0 : 0 ≤ LIM := by decide
  generalize decide (mvF a 0 ks ls = []) = B at *
  generalize (mvF a 0 ks ls).map stD = X at *
  generalize sitD a ls = S at *
  simp [e_var, e_int, e_bl, e_non, e_str, e_tyn, e_con, e_bin, e_neg, e_cmp, e_chain, e_and, e_or, e_not, e_ite, e_tup, e_lst, e_idx, e_slc, e_dnewT, e_dgetT, e_fz, e_attr, e_isi, e_sset, e_new, e_call, e_bi, e_heard2, e_app, e_me, es_nil, es_cons, ts_nil, ts_cons, eo_none, eo_some, ec_none, ec_some, i_seq, i_rng, i_zip, i_enum, s_asg, s_par2, s_asgLc, s_asgLcF, s_put, s_putT, s_sat, s_ite, s_ret, s_ret0, s_raise, s_expr, ss_nil, ss_cons, Fl.then, Fl.res, Fn.fill, cmpT, mtS, f__law_moves_told, nth, mtE, e1, e2, e3, e4, e5, l0]
theorem mt_s2 (T : H__law_moves_told tb) (k : Nat) {s : Sto} {n : Nat} {st start : Int} {ks : List Kd} (h : TeamAt s n st start ks []) (hk : ∀ kd ∈ ks, KOk st kd) (hl : ks.length ≤ 3) {a : Int} {ls : List Int} (hs : SitOk st ks a ls) (K : D) :
    ∃ q6 q7 : Option D, evS (run tb wf (k+6)) wf (mtS 2) (mtE n st K (sitD a ls) (.fro ((mvF a 0 ks ls).map stD)) none none none none none none none) s =
      .nx (mtE n st K (sitD a ls) (.fro ((mvF a 0 ks ls).map stD)) q6 q7 none none none none none) s := by
  have hml := mv_len a 0 ks ls hk
  obtain ⟨q6, q7, ef⟩ := mt_loop (wf := wf) T k h hk hl hs K (.fro ((mvF a 0 ks ls).map stD)) none none none none none (mvF a 0 ks ls ++ [[]]) none none (fun r hr => by
    rcases List.mem_append.mp hr with h1 | h1
    · exact .inl h1
    · exact .inr (by simpa using h1))
  refine ⟨q6, q7, ?_⟩
  have hb : binT .add (.v (.fro ((mvF a 0 ks ls).map stD))) (.l [.tup []]) s = some (.l ((mvF a 0 ks ls ++ [[]]).map stD)) := by
    rw [b_addfl, if_pos (LIM_le (by simp; omega))]
    simp [stD]
  have l0 : 0 ≤ LIM := by decide
  have l1 : 1 ≤ LIM := by decide
  have hf := s_for (cf := run tb wf (k+6)) (wf := wf) (t := .nm 6) (it := .seq (.bin .add (.var 5) (.lst (.cons (.tup .nil) .nil)))) (b := mtB) (ρ := mtE n st K (sitD a ls) (.fro ((mvF a 0 ks ls).map stD)) none none none none none none none) (s := s) (s' := s) (I := ⟨(mvF a 0 ks ls ++ [[]]).map stD, []⟩) (by
    generalize (mvF a 0 ks ls ++ [[]]).map stD = Y at *
    generalize (mvF a 0 ks ls).map stD = X at *
    simp [e_var, e_int, e_bl, e_non, e_str, e_tyn, e_con, e_bin, e_neg, e_cmp, e_chain, e_and, e_or, e_not, e_ite, e_tup, e_lst, e_idx, e_slc, e_dnewT, e_dgetT, e_fz, e_attr, e_isi, e_sset, e_new, e_call, e_bi, e_heard2, e_app, e_me, es_nil, es_cons, ts_nil, ts_cons, eo_none, eo_some, ec_none, ec_some, i_seq, i_rng, i_zip, i_enum, s_asg, s_par2, s_asgLc, s_asgLcF, s_put, s_putT, s_sat, s_ite, s_ret, s_ret0, s_raise, s_expr, ss_nil, ss_cons, Fl.then, Fl.res, Fn.fill, cmpT, mtE, hb, l0, l1])
  simp only at hf
  rw [ef] at hf
  exact hf
theorem mt_s3 (T : H__law_moves_told tb) (k : Nat) {n : Nat} {st : Int} {ks : List Kd} (h0 : ks ≠ []) (hl : ks.length ≤ 3) {z : Int} {w : Int × Int × Int} {r : Sto} (hw : Ok z w) (hz : z + 1 ≤ 1000000000) (S M : D) (q6 q7 : Option D) :
    ∃ (j : Nat) (w' : Int × Int × Int), j < ks.length ∧ Ok (z + 1) w' ∧ evS (run tb wf (k+1)) wf (mtS 3) (mtE n st (.fro (ks.map kD)) S M q6 q7 none none none none none) (Wl w r) =
      .nx (mtE n st (.fro (ks.map kD)) S M q6 q7 (some (.int (j : Nat))) none none none none) (Wl w' r) := by
  have hpos : 0 < ks.length := List.length_pos_iff.mpr h0
  obtain ⟨d, w', d0, d1, o1, e1⟩ := dip (wf := wf) T.toH__law_dip k (m := (ks.length : Int)) (r := r) hw hz (by omega) (by omega)
  obtain ⟨j, rfl⟩ := Int.eq_ofNat_of_zero_le d0
  refine ⟨j, w', by omega, o1, ?_⟩
  have hlen : ((ks.map kD).length : Int) = (ks.length : Int) := by simp
  rw [← hlen] at e1
  generalize ks.map kD = K at *
  generalize ((j : Nat) : Int) = jj at *
  simp [e_var, e_int, e_bl, e_non, e_str, e_tyn, e_con, e_bin, e_neg, e_cmp, e_chain, e_and, e_or, e_not, e_ite, e_tup, e_lst, e_idx, e_slc, e_dnewT, e_dgetT, e_fz, e_attr, e_isi, e_sset, e_new, e_call, e_bi, e_heard2, e_app, e_me, es_nil, es_cons, ts_nil, ts_cons, eo_none, eo_some, ec_none, ec_some, i_seq, i_rng, i_zip, i_enum, s_asg, s_par2, s_asgLc, s_asgLcF, s_put, s_putT, s_sat, s_ite, s_ret, s_ret0, s_raise, s_expr, ss_nil, ss_cons, Fl.then, Fl.res, Fn.fill, cmpT, mtS, f__law_moves_told, nth, mtE, e1]
/-- one odd move drawn -/
theorem md_loop (T : H__law_dip tb) (k : Nat) {n : Nat} {st : Int} (h1 : 1 ≤ st) (h3 : st ≤ 3) {ks : List Kd} {j : Nat} {kd : Kd} (hj : ks[j]? = some kd) (hm : 1 ≤ kd.many) (hm3 : kd.many ≤ 3) {r : Sto} (S M : D) (q6 q7 : Option D) :
    ∀ (zs : List D) (z : Int) (w : Int × Int × Int) (acc : List D), Ok z w → z + 2 * zs.length ≤ 1000000000 → acc.length + zs.length ≤ 1000 →
    ∃ (ts : List D) (w' : Int × Int × Int), ts.length = zs.length ∧ (∀ d ∈ ts, Od d) ∧ Ok (z + 2 * zs.length) w' ∧
      lcLoop (lcF (.nm 13) [13] (mtE n st (.fro (ks.map kD)) S M q6 q7 (some (.int (j : Nat))) none none none none) (evC (run tb wf (k+1)) .none) (evE (run tb wf (k+1)) (.tup (.cons (.var 8) (.cons (.call "_law_dip" (.cons (.var 0) (.cons (.var 2) .nil))) (.cons (.call "_law_dip" (.cons (.var 0) (.cons (.idx (.idx (.var 3) (.var 8)) (.int 0)) .nil))) .nil)))))) [] zs acc (Wl w r) = .ok (.l (acc ++ ts)) (Wl w' r)
  | [], z, w, acc, hw, _, _ => ⟨[], w, rfl, by simp, by simpa using hw, by simp [lcLoop, stands]⟩
  | y :: zs, z, w, acc, hw, hz, hl => by
    simp only [List.length_cons] at hz hl
    obtain ⟨d, w1, d0, d1, o1, e1⟩ := dip (wf := wf) T k (m := st) (r := r) hw (by omega) (by omega) (by omega)
    obtain ⟨e, w2, f0, f1, o2, e2⟩ := dip (wf := wf) T k (m := kd.many) (r := r) o1 (by omega) (by omega) (by omega)
    obtain ⟨ts, w3, a1, a2, o3, e3⟩ := md_loop T k h1 h3 hj hm hm3 S M q6 q7 zs (z + 1 + 1) w2 (acc ++ [stD [(j : Nat), d, e]]) o2 (by omega) (by simp; omega)
    refine ⟨stD [(j : Nat), d, e] :: ts, w3, by simp [a1], fun x hx => ?_, ?_, ?_⟩
    · rcases List.mem_cons.mp hx with rfl | hx
      · exact Od.st3 _ _ _
      · exact a2 x hx
    · have : z + 2 * ((y :: zs).length : Nat) = z + 1 + 1 + 2 * (zs.length : Nat) := by simp; omega
      rw [this]
      exact o3
    · have hlt : acc.length < LIM := LIM_lt (by omega)
      have hat := atI_map (f := kD) hj
      have l3 : 3 ≤ LIM := by decide
      have e0 : lcF (.nm 13) [13] (mtE n st (.fro (ks.map kD)) S M q6 q7 (some (.int (j : Nat))) none none none none) (evC (run tb wf (k+1)) .none) (evE (run tb wf (k+1)) (.tup (.cons (.var 8) (.cons (.call "_law_dip" (.cons (.var 0) (.cons (.var 2) .nil))) (.cons (.call "_law_dip" (.cons (.var 0) (.cons (.idx (.idx (.var 3) (.var 8)) (.int 0)) .nil))) .nil))))) y (Wl w r) = .ok (some (stD [(j : Nat), d, e])) (Wl w2 r) := by
        simp only [kD] at hat
        generalize ks.map kD = K at *
        simp only [stD, List.map_cons, List.map_nil]
        generalize ((j : Nat) : Int) = jj at *
        simp [e_var, e_int, e_bl, e_non, e_str, e_tyn, e_con, e_bin, e_neg, e_cmp, e_chain, e_and, e_or, e_not, e_ite, e_tup, e_lst, e_idx, e_slc, e_dnewT, e_dgetT, e_fz, e_attr, e_isi, e_sset, e_new, e_call, e_bi, e_heard2, e_app, e_me, es_nil, es_cons, ts_nil, ts_cons, eo_none, eo_some, ec_none, ec_some, i_seq, i_rng, i_zip, i_enum, s_asg, s_par2, s_asgLc, s_asgLcF, s_put, s_putT, s_sat, s_ite, s_ret, s_ret0, s_raise, s_expr, ss_nil, ss_cons, Fl.then, Fl.res, Fn.fill, cmpT, lcF, wipeE, mtE, e1, e2, hat, l3]
      rw [lcLoop]
      simp only [stands, List.all_nil, if_true, e0, hlt]
      rw [e3]
      simp
theorem mt_s4 (T : H__law_moves_told tb) (k : Nat) {n : Nat} {st : Int} (h1 : 1 ≤ st) (h3 : st ≤ 3) {ks : List Kd} {j : Nat} {kd : Kd} (hj : ks[j]? = some kd) (hm : 1 ≤ kd.many) (hm3 : kd.many ≤ 3) {z : Int} {w : Int × Int × Int} {r : Sto} (hw : Ok z w) (hz : z + 8 ≤ 1000000000) (S M : D) (q6 q7 : Option D) :
    ∃ (ts : List D) (w' : Int × Int × Int), ts.length = 4 ∧ (∀ d ∈ ts, Od d) ∧ Ok (z + 8) w' ∧ evS (run tb wf (k+1)) wf (mtS 4) (mtE n st (.fro (ks.map kD)) S M q6 q7 (some (.int (j : Nat))) none none none none) (Wl w r) =
      .nx (mtE n st (.fro (ks.map kD)) S M q6 q7 (some (.int (j : Nat))) (some (.fro ts)) none none none) (Wl w' r) := by
  have hrg := rangeD_ok (j := 4) (by decide) (by decide)
  obtain ⟨ts, w', a1, a2, o1, e1⟩ := md_loop (wf := wf) T.toH__law_dip k h1 h3 hj hm hm3 (n := n) (r := r) S M q6 q7 ((List.range (4 : Int).toNat).map fun i => D.int (0 + (i : Nat))) z w [] hw (by simp; omega) (by simp)
  refine ⟨ts, w', by simpa using a1, a2, by simpa using o1, ?_⟩
  have hc : evE (run tb wf (k+1)) (.lc [("turn", 13)] (.nm 13) (.rng (.cons (.int 4) .nil)) .none (.tup (.cons (.var 8) (.cons (.call "_law_dip" (.cons (.var 0) (.cons (.var 2) .nil))) (.cons (.call "_law_dip" (.cons (.var 0) (.cons (.idx (.idx (.var 3) (.var 8)) (.int 0)) .nil))) .nil)))))
      (mtE n st (.fro (ks.map kD)) S M q6 q7 (some (.int (j : Nat))) none none none none) (Wl w r) = .ok (.l ts) (Wl w' r) := by
    rw [e_lc (I := ⟨(List.range (4 : Int).toNat).map fun i => D.int (0 + (i : Nat)), []⟩) (s' := Wl w r) (by simp [e_var, e_int, e_bl, e_non, e_str, e_tyn, e_con, e_bin, e_neg, e_cmp, e_chain, e_and, e_or, e_not, e_ite, e_tup, e_lst, e_idx, e_slc, e_dnewT, e_dgetT, e_fz, e_attr, e_isi, e_sset, e_new, e_call, e_bi, e_heard2, e_app, e_me, es_nil, es_cons, ts_nil, ts_cons, eo_none, eo_some, ec_none, ec_some, i_seq, i_rng, i_zip, i_enum, s_asg, s_par2, s_asgLc, s_asgLcF, s_put, s_putT, s_sat, s_ite, s_ret, s_ret0, s_raise, s_expr, ss_nil, ss_cons, Fl.then, Fl.res, Fn.fill, cmpT, rangeOf, hrg])]
    simp only [List.map_cons, List.map_nil]
    rw [e1, List.nil_append]
  generalize ks.map kD = K at *
  generalize ((j : Nat) : Int) = jj at *
  simp only [mtE] at hc
  simp [e_var, e_int, e_bl, e_non, e_str, e_tyn, e_con, e_bin, e_neg, e_cmp, e_chain, e_and, e_or, e_not, e_ite, e_tup, e_lst, e_idx, e_slc, e_dnewT, e_dgetT, e_fz, e_attr, e_isi, e_sset, e_new, e_call, e_bi, e_heard2, e_app, e_me, es_nil, es_cons, ts_nil, ts_cons, eo_none, eo_some, ec_none, ec_some, i_seq, i_rng, i_zip, i_enum, s_asg, s_par2, s_asgLc, s_asgLcF, s_put, s_putT, s_sat, s_ite, s_ret, s_ret0, s_raise, s_expr, ss_nil, ss_cons, Fl.then, Fl.res, Fn.fill, cmpT, mtS, f__law_moves_told, nth, mtE, hc, Fy.T.froz]
theorem mt_s5 (k : Nat) {s : Sto} {n : Nat} {st : Int} (K : List D) (j : Int) (ts : List D) (ht : ts.length = 4) (S M : D) (q6 q7 : Option D) :
    evS (run tb wf k) wf (mtS 5) (mtE n st (.fro K) S M q6 q7 (some (.int j)) (some (.fro ts)) none none none) s =
      .nx (mtE n st (.fro K) S M q6 q7 (some (.int j)) (some (.fro (ts ++ odds10 K.length j st))) none none none) s := by
  have hb : binT .add (.v (.fro ts)) (.l (odds10 K.length j st)) s = some (.l (ts ++ odds10 K.length j st)) := by
    rw [b_addfl, if_pos (LIM_le (by simp [ht, odds10]))]
  have l0 : 0 ≤ LIM := by decide
  have l1 : 1 ≤ LIM := by decide
  have l3 : 3 ≤ LIM := by decide
  have l10 : 10 ≤ LIM := by decide
  generalize hY : ts ++ odds10 K.length j st = Y at *
  simp only [odds10, stD, List.map_cons, List.map_nil] at hb
  simp [e_var, e_int, e_bl, e_non, e_str, e_tyn, e_con, e_bin, e_neg, e_cmp, e_chain, e_and, e_or, e_not, e_ite, e_tup, e_lst, e_idx, e_slc, e_dnewT, e_dgetT, e_fz, e_attr, e_isi, e_sset, e_new, e_call, e_bi, e_heard2, e_app, e_me, es_nil, es_cons, ts_nil, ts_cons, eo_none, eo_some, ec_none, ec_some, i_seq, i_rng, i_zip, i_enum, s_asg, s_par2, s_asgLc, s_asgLcF, s_put, s_putT, s_sat, s_ite, s_ret, s_ret0, s_raise, s_expr, ss_nil, ss_cons, Fl.then, Fl.res, Fn.fill, cmpT, mtS, f__law_moves_told, nth, mtE, hb, l0, l1, l3, l10, Fy.T.froz]
theorem mt_s6 (T : H__law_moves_told tb) (k : Nat) {n : Nat} {st : Int} {ks : List Kd} (hk : ∀ kd ∈ ks, KOk st kd) (hl : ks.length ≤ 3) {a : Int} {ls : List Int} {z : Int} {w : Int × Int × Int} {r : Sto} (hw : Ok z w) (hz : z + 1 ≤ 1000000000) (K S : D) (o8 : Option D) (ts : List D) (ht : ts.length ≤ 100) (q6 q7 : Option D) :
    ∃ (us : List D) (w' : Int × Int × Int) (o10 : Option D), us.length ≤ 6 ∧ (∀ d ∈ us, Od d) ∧ Ok (z + 1) w' ∧ evS (run tb wf (k+2)) wf (mtS 6) (mtE n st K S (.fro ((mvF a 0 ks ls).map stD)) q6 q7 o8 (some (.fro ts)) none none none) (Wl w r) =
      .nx (mtE n st K S (.fro ((mvF a 0 ks ls).map stD)) q6 q7 o8 (some (.fro (ts ++ us))) o10 none none) (Wl w' r) := by
  have hml := mv_len a 0 ks ls hk
  have l0 : 0 ≤ LIM := by decide
  have e5 := fun s => eq_fsts0 (mvF a 0 ks ls) s
  by_cases hmv : mvF a 0 ks ls = []
  · refine ⟨[], w, none, by simp, by simp, hw.le (by omega) hz, ?_⟩
    rw [decide_eq_true hmv] at e5
    rw [List.append_nil]
    generalize (mvF a 0 ks ls).map stD = X at *
    simp [e_var, e_int, e_bl, e_non, e_str, e_tyn, e_con, e_bin, e_neg, e_cmp, e_chain, e_and, e_or, e_not, e_ite, e_tup, e_lst, e_idx, e_slc, e_dnewT, e_dgetT, e_fz, e_attr, e_isi, e_sset, e_new, e_call, e_bi, e_heard2, e_app, e_me, es_nil, es_cons, ts_nil, ts_cons, eo_none, eo_some, ec_none, ec_some, i_seq, i_rng, i_zip, i_enum, s_asg, s_par2, s_asgLc, s_asgLcF, s_put, s_putT, s_sat, s_ite, s_ret, s_ret0, s_raise, s_expr, ss_nil, ss_cons, Fl.then, Fl.res, Fn.fill, cmpT, mtS, f__law_moves_told, nth, mtE, e5, l0]
  · rw [decide_eq_false hmv] at e5
    obtain ⟨x, w', hx, o1, e1⟩ := one (wf := wf) T.toH__law_one k (X := .fro ((mvF a 0 ks ls).map stD)) (r := r) (.inl rfl) hw hz (by simpa using hmv) (by simp; omega) (pls_under _ (st_pls _))
    obtain ⟨m, hm, rfl⟩ := List.mem_map.mp hx
    obtain ⟨j, kd, l, t, m', _, _, _, rfl, _⟩ := mv_move hk hm
    refine ⟨odds6 (j : Nat) t m', w', some (stD [(j : Nat), t, m']), by simp [odds6], odds6_od _ _ _, o1, ?_⟩
    have hb : ∀ s, binT .add (.v (.fro ts)) (.l (odds6 (j : Nat) t m')) s = some (.l (ts ++ odds6 (j : Nat) t m')) := fun s => by
      rw [b_addfl, if_pos (LIM_le (by simp [odds6]; omega))]
    generalize (mvF a 0 ks ls).map stD = X at *
    generalize ((j : Nat) : Int) = jj at *
    have c1 := cut32 (.int jj) (.int t) (.int m')
    have c2 := cut31 (.int jj) (.int t) (.int m')
    have l1 : 1 ≤ LIM := by decide
    have l2 : 2 ≤ LIM := by decide
    have l3 : 3 ≤ LIM := by decide
    have l4 : 4 ≤ LIM := by decide
    have l6 : 6 ≤ LIM := by decide
    generalize hY : ts ++ odds6 jj t m' = Y at *
    simp only [odds6] at hb
    simp only [stD, List.map_cons, List.map_nil] at e1 ⊢
    simp [e_var, e_int, e_bl, e_non, e_str, e_tyn, e_con, e_bin, e_neg, e_cmp, e_chain, e_and, e_or, e_not, e_ite, e_tup, e_lst, e_idx, e_slc, e_dnewT, e_dgetT, e_fz, e_attr, e_isi, e_sset, e_new, e_call, e_bi, e_heard2, e_app, e_me, es_nil, es_cons, ts_nil, ts_cons, eo_none, eo_some, ec_none, ec_some, i_seq, i_rng, i_zip, i_enum, s_asg, s_par2, s_asgLc, s_asgLcF, s_put, s_putT, s_sat, s_ite, s_ret, s_ret0, s_raise, s_expr, ss_nil, ss_cons, Fl.then, Fl.res, Fn.fill, cmpT, mtS, f__law_moves_told, nth, mtE, e5, e1, hb, c1, c2, l0, l1, l2, l3, l4, l6, Fy.T.froz]
theorem mt_s7 (T : H__law_moves_told tb) (k : Nat) {s : Sto} {n : Nat} {st start : Int} {ks : List Kd} (h : TeamAt s n st start ks []) (hk : ∀ kd ∈ ks, KOk st kd) {a : Int} {ls : List Int} (hs : SitOk st ks a ls) (K : D) (o6 o7 o8 o10 : Option D) (ds : List D) (hd : ∀ d ∈ ds, Od d) :
    ∃ q11 q12 : Option D, evS (run tb wf (k+6)) wf (mtS 7) (mtE n st K (sitD a ls) (.fro ((mvF a 0 ks ls).map stD)) o6 o7 o8 (some (.fro ds)) o10 none none) s =
      .nx (mtE n st K (sitD a ls) (.fro ((mvF a 0 ks ls).map stD)) o6 o7 o8 (some (.fro ds)) o10 q11 q12) s := by
  obtain ⟨q11, q12, ef⟩ := mo_loop (wf := wf) T k h hk hs K o6 o7 o8 (some (.fro ds)) o10 ds none none hd
  refine ⟨q11, q12, ?_⟩
  have hf := s_for (cf := run tb wf (k+6)) (wf := wf) (t := .nm 11) (it := .seq (.var 9)) (b := moB) (ρ := mtE n st K (sitD a ls) (.fro ((mvF a 0 ks ls).map stD)) o6 o7 o8 (some (.fro ds)) o10 none none) (s := s) (s' := s) (I := ⟨ds, []⟩) (by simp [e_var, e_int, e_bl, e_non, e_str, e_tyn, e_con, e_bin, e_neg, e_cmp, e_chain, e_and, e_or, e_not, e_ite, e_tup, e_lst, e_idx, e_slc, e_dnewT, e_dgetT, e_fz, e_attr, e_isi, e_sset, e_new, e_call, e_bi, e_heard2, e_app, e_me, es_nil, es_cons, ts_nil, ts_cons, eo_none, eo_some, ec_none, ec_some, i_seq, i_rng, i_zip, i_enum, s_asg, s_par2, s_asgLc, s_asgLcF, s_put, s_putT, s_sat, s_ite, s_ret, s_ret0, s_raise, s_expr, ss_nil, ss_cons, Fl.then, Fl.res, Fn.fill, cmpT, mtE])
  simp only at hf
  rw [ef] at hf
  exact hf
theorem mt_s8 (k : Nat) (ρ : Env) (s : Sto) : evS (run tb wf k) wf (mtS 8) ρ s = .rt (.v (.bl true)) s := by simp [e_var, e_int, e_bl, e_non, e_str, e_tyn, e_con, e_bin, e_neg, e_cmp, e_chain, e_and, e_or, e_not, e_ite, e_tup, e_lst, e_idx, e_slc, e_dnewT, e_dgetT, e_fz, e_attr, e_isi, e_sset, e_new, e_call, e_bi, e_heard2, e_app, e_me, es_nil, es_cons, ts_nil, ts_cons, eo_none, eo_some, ec_none, ec_some, i_seq, i_rng, i_zip, i_enum, s_asg, s_par2, s_asgLc, s_asgLcF, s_put, s_putT, s_sat, s_ite, s_ret, s_ret0, s_raise, s_expr, ss_nil, ss_cons, Fl.then, Fl.res, Fn.fill, cmpT, mtS, f__law_moves_told, nth]
theorem moves_told (T : H__law_moves_told tb) (k : Nat) {n : Nat} {st start : Int} (h1 : 1 ≤ st) (h3 : st ≤ 3) {ks : List Kd} (hk : ∀ kd ∈ ks, KOk st kd) (h0 : ks ≠ []) (hl : ks.length ≤ 3) {w : Int × Int × Int} {r : Sto} (h : TeamAt (Wl w r) (n + 1) st start ks []) {z : Int} (hw : Ok z w) (hz : z + 20 ≤ 1000000000) {a : Int} {ls : List Int} (hs : SitOk st ks a ls) :
    ∃ w' : Int × Int × Int, Ok (z + 20) w' ∧ run tb wf (k+7) "_law_moves_told" [.loc 0, .loc (n + 1), .int st, .fro (ks.map kD), sitD a ls] (Wl w r) = .ok (.v (.bl true)) (Wl w' r) := by
  have e0 := mt_s0 (wf := wf) T (k+5) (s := Wl w r) (n := n + 1) hk hl hs
  have e1 := mt_s1 (wf := wf) T (k+3) h hk hl hs (.fro (ks.map kD))
  obtain ⟨q6, q7, e2⟩ := mt_s2 (wf := wf) T k h hk hl hs (.fro (ks.map kD))
  obtain ⟨j, w1, hj, o1, e3⟩ := mt_s3 (wf := wf) T (k+5) (n := n + 1) (st := st) (r := r) h0 hl hw (by omega) (sitD a ls) (.fro ((mvF a 0 ks ls).map stD)) q6 q7
  have hkj : ks[j]? = some ks[j] := List.getElem?_eq_getElem hj
  have hok := hk ks[j] (List.getElem_mem hj)
  obtain ⟨ts, w2, a1, a2, o2, e4⟩ := mt_s4 (wf := wf) T (k+5) (n := n + 1) (r := r) h1 h3 hkj hok.m1 hok.m3 o1 (by omega) (sitD a ls) (.fro ((mvF a 0 ks ls).map stD)) q6 q7
  have e5 := mt_s5 (tb := tb) (wf := wf) (k+6) (s := Wl w2 r) (n := n + 1) (st := st) (ks.map kD) (j : Nat) ts a1 (sitD a ls) (.fro ((mvF a 0 ks ls).map stD)) q6 q7
  obtain ⟨us, w3, o10, b1, b2, o3, e6⟩ := mt_s6 (wf := wf) T (k+4) (n := n + 1) (r := r) (a := a) (ls := ls) hk hl o2 (by omega) (.fro (ks.map kD)) (sitD a ls) (some (.int (j : Nat))) (ts ++ odds10 (ks.map kD).length (j : Nat) st) (by simp [a1, odds10]) q6 q7
  obtain ⟨q11, q12, e7⟩ := mt_s7 (wf := wf) T k (h.wl (w' := w3)) hk hs (.fro (ks.map kD)) q6 q7 (some (.int (j : Nat))) o10 ((ts ++ odds10 (ks.map kD).length (j : Nat) st) ++ us) (fun d hd => by
    rcases List.mem_append.mp hd with hd | hd
    · rcases List.mem_append.mp hd with hd | hd
      · exact a2 d hd
      · exact odds10_od _ _ _ d hd
    · exact b2 d hd)
  refine ⟨w3, o3.le (by omega) hz, ?_⟩
  have ht := (Kp.w0 w w3 r).n (d := .bl true) rfl
  have e8 := fun ρ => mt_s8 (tb := tb) (wf := wf) (k+6) ρ (Wl w3 r)
  rw [run, T._law_moves_told]
  show Fl.res (Wl w r) (evSs (run tb wf (k+6)) wf f__law_moves_told.body [some (.loc 0), some (.loc (n + 1)), some (.int st), some (.fro (ks.map kD)), some (sitD a ls), none, none, none, none, none, none, none, none, none, none] (Wl w r)) = _
  rw [mt_body]
  simp only [ss_cons, e0, e1, e2, e3, e4, e5, e6, e7, e8, Fl.then, Fl.res, ht]
end
end Fam
end
section
set_option Elab.async false
set_option linter.all false
set_option maxRecDepth 100000
set_option maxHeartbeats 1000000
set_option linter.unusedSimpArgs false
/-! Mq: what is no situation. -/
namespace Fam
open Fy
abbrev otS (i : Nat) : S := nth f__law_odd_theres.body i
theorem ot_body : f__law_odd_theres.body = .cons (otS 0) (.cons (otS 1) (.cons (otS 2) (.cons (otS 3) (.cons (otS 4) .nil)))) := rfl
def ots12 (a st : Int) (L : List D) : List D := [.non, .int 0, .str "", .tup [], .tup [.int a], .tup [.int a, .tup L, .int 0], .fro [.int a, .tup L], .tup [.int a, .fro L], .tup [.int a, .tup (L ++ [.int 0])], .tup [.int a, .tup (cutD L (some 1) none)], .tup [.int st, .tup L], .tup [.int (0 - 1), .tup L]]
def ots3 (a : Int) (L : List D) : List D := [.tup [.bl (decide (a = 1)), .tup L], .tup [.non, .tup L], .tup [.int a, .non]]
def putV (a : Int) (L : List D) (i : Nat) (v : D) : D := .tup [.int a, .tup (L.take i ++ v :: L.drop (i + 1))]
def ots5 (a : Int) (L : List D) (i : Nat) (l many : Int) : List D := [putV a L i (.int many), putV a L i (.int (0 - 1)), putV a L i .non, putV a L i (.bl (decide (l = 1))), putV a L i (.tup [.int l])]
def otsF (a : Int) (L : List D) : Nat → List Kd → List Int → List D
  | i, kd :: ks, l :: ls => ots5 a L i l kd.many ++ otsF a L (i + 1) ks ls
  | _, _, _ => []
def ots (a st : Int) (ks : List Kd) (ls : List Int) : List D := ots12 a st (ls.map .int) ++ ots3 a (ls.map .int) ++ otsF a (ls.map .int) 0 ks ls
/-! none is a situation -/
def bad (st : Int) (ks : List Kd) (d : D) : Prop := pl d = true ∧ sitB st ks d = false
theorem pls_app {xs ys : List D} (h1 : pls xs = true) (h2 : pls ys = true) : pls (xs ++ ys) = true := pls_of fun x hx => (List.mem_append.mp hx).elim (pls_mem h1 x) (pls_mem h2 x)
theorem row_len {ms : List Int} {xs : List D} (h : xs.length ≠ ms.length) : rowB ms (.tup xs) = false := by simp [rowB, h]
theorem row_bad {ms : List Int} {L : List D} {i : Nat} {v : D} {m : Int} (hi : ms[i]? = some m) (hl : L.length = ms.length) (hv : num (some m) v = false) : rowB ms (.tup (L.take i ++ v :: L.drop (i + 1))) = false := by
  have hlt := (List.getElem?_eq_some_iff.mp hi).1
  simp only [rowB, Bool.and_eq_false_iff]
  right
  rw [List.all_eq_false]
  refine ⟨(v, m), ?_, by simp [hv]⟩
  apply List.mem_of_getElem? (i := i)
  rw [List.getElem?_zip_eq_some]
  refine ⟨?_, hi⟩
  rw [List.getElem?_append_right (by simp; omega)]
  simp only [List.length_take]
  have : i - min i L.length = 0 := by omega
  rw [this]
  rfl
theorem cut_1 (L : List D) : cutD L (some 1) none = L.drop 1 := by
  cases L with
  | nil => rfl
  | cons x L => exact cut_drop (x :: L) 1 (by simp)
theorem ots_bad {st : Int} {ks : List Kd} {a : Int} {ls : List Int} (hs : SitOk st ks a ls) (h0 : ks ≠ []) : ∀ d ∈ ots a st ks ls, bad st ks d := fun d hd => by
  have hpos : 0 < ks.length := List.length_pos_iff.mpr h0
  have hlen := hs.len
  have hL := pls_ints ls
  have hd1 : pls ((ls.map D.int).drop 1) = true := pls_of fun x hx => pls_mem hL x (List.mem_of_mem_drop hx)
  simp only [ots, List.mem_append] at hd
  rcases hd with (hd | hd) | hd
  · simp only [ots12, List.mem_cons, List.not_mem_nil, or_false] at hd
    rcases hd with rfl | rfl | rfl | rfl | rfl | rfl | rfl | rfl | rfl | rfl | rfl | rfl
    · exact ⟨rfl, rfl⟩
    · exact ⟨rfl, rfl⟩
    · exact ⟨rfl, rfl⟩
    · exact ⟨rfl, rfl⟩
    · exact ⟨rfl, rfl⟩
    · exact ⟨by simp [pl, pls, hL], rfl⟩
    · exact ⟨by simp [pl, pls, hL], rfl⟩
    · exact ⟨by simp [pl, pls, hL], by simp [sitB, rowB]⟩
    · exact ⟨by simp only [pl, pls, Bool.and_true, Bool.true_and]; exact pls_app hL rfl, by simp only [sitB]; rw [row_len (by simp; omega), Bool.and_false]⟩
    · rw [cut_1]
      exact ⟨by simp only [pl, pls, Bool.and_true, Bool.true_and]; exact hd1, by simp only [sitB]; rw [row_len (by simp; omega), Bool.and_false]⟩
    · exact ⟨by simp [pl, pls, hL], by simp [sitB, num]; omega⟩
    · exact ⟨by simp [pl, pls, hL], by simp [sitB, num]⟩
  · simp only [ots3, List.mem_cons, List.not_mem_nil, or_false] at hd
    rcases hd with rfl | rfl | rfl
    · exact ⟨by simp [pl, pls, hL], by simp [sitB, num]⟩
    · exact ⟨by simp [pl, pls, hL], by simp [sitB, num]⟩
    · exact ⟨by simp [pl, pls], by simp [sitB, rowB]⟩
  · have key : ∀ (ks' : List Kd) (ls' : List Int) (i0 : Nat), (∀ (j : Nat) (kd : Kd), ks'[j]? = some kd → ks[i0 + j]? = some kd) → ∀ d ∈ otsF a (ls.map .int) i0 ks' ls', bad st ks d := by
      intro ks'
      induction ks' with
      | nil => intro ls' i0 _ d hd; simp [otsF] at hd
      | cons kd ks' ih =>
        intro ls' i0 hks d hd
        cases ls' with
        | nil => simp [otsF] at hd
        | cons l ls' =>
          rw [otsF, List.mem_append] at hd
          rcases hd with hd | hd
          · have hi : ks[i0]? = some kd := hks 0 kd rfl
            have him : (ks.map fun kd => kd.many - 1)[i0]? = some (kd.many - 1) := by simp [List.getElem?_map, hi]
            have one : ∀ v : D, pl v = true → num (some (kd.many - 1)) v = false → bad st ks (putV a (ls.map .int) i0 v) := fun v hv hn => by
              refine ⟨?_, ?_⟩
              · simp only [putV, pl, pls, Bool.and_true, Bool.true_and]
                refine pls_app (pls_of fun x hx => pls_mem hL x (List.mem_of_mem_take hx)) ?_
                simp only [pls, hv, Bool.true_and]
                exact pls_of fun x hx => pls_mem hL x (List.mem_of_mem_drop hx)
              · simp only [putV, sitB]
                rw [row_bad him (by simp; omega) hn, Bool.and_false]
            simp only [ots5, List.mem_cons, List.not_mem_nil, or_false] at hd
            rcases hd with rfl | rfl | rfl | rfl | rfl
            · exact one _ rfl (by simp [num]; omega)
            · exact one _ rfl (by simp [num])
            · exact one _ rfl rfl
            · exact one _ rfl rfl
            · exact one _ rfl rfl
          · exact ih ls' (i0 + 1) (fun j kd' hj => by have := hks (j + 1) kd' (by simpa using hj); rw [← this]; congr 1; omega) d hd
    exact key ks ls 0 (fun j kd hj => by simpa using hj) d hd
/-! ### the walk -/
abbrev otE (a : Int) (L S st K : D) (m : Nat) (o6 o7 o8 : Option D) : Env := [some S, some st, some K, some (.int a), some L, some (.loc m), o6, o7, o8]
def otB : Ss := forB (otS 3)
def otC : Ss := forB (nth otB 0)
section
variable {tb : Tab} {wf : Nat}
theorem ot_in (k : Nat) (s : Sto) (a : Int) (L : List D) (hL : L.length ≤ 3) (S st K : D) (i : Nat) (hi : i < L.length) (o7 : Option D) : ∀ (vs acc : List D) (o8 : Option D), acc.length + vs.length ≤ 1000 →
    ∃ q8 : Option D, forLoop (forF (.nm 8) (evSs (run tb wf k) wf otC)) [] vs (otE a (.tup L) S st K s.length (some (.int (i : Nat))) o7 o8) (s ++ [.lst acc]) = .nx (otE a (.tup L) S st K s.length (some (.int (i : Nat))) o7 q8) (s ++ [.lst (acc ++ vs.map (putV a L i))])
  | [], acc, o8, _ => ⟨o8, by simp [forLoop, stands]⟩
  | v :: vs, acc, o8, hl => by
    simp only [List.length_cons] at hl
    obtain ⟨q8, e⟩ := ot_in k s a L hL S st K i hi o7 vs (acc ++ [putV a L i v]) (some v) (by simp; omega)
    refine ⟨q8, ?_⟩
    have at_ : (s ++ [O.lst acc])[s.length]? = some (.lst acc) := by simp
    have hil := isLst_loc at_
    have hap := appT_loc at_ (LIM_lt (by omega)) (putV a L i v)
    have hset : (s ++ [O.lst acc]).set s.length (.lst (acc ++ [putV a L i v])) = s ++ [.lst (acc ++ [putV a L i v])] := by simp [List.set_append_right]
    rw [hset] at hap
    have c1 := cut_take L i (by omega)
    have c2 := cut_drop L (i + 1) (by omega)
    have hc : ((i + 1 : Nat) : Int) = (i : Int) + 1 := by omega
    rw [hc] at c2
    have b1 : (L.take i).length + 1 ≤ LIM := LIM_le (by simp; omega)
    have b2 : (L.take i).length + 1 + (L.drop (i + 1)).length ≤ LIM := LIM_le (by simp; omega)
    have l1 : 1 ≤ LIM := by decide
    have l2 : 2 ≤ LIM := by decide
    have e0 : forF (.nm 8) (evSs (run tb wf k) wf otC) v (otE a (.tup L) S st K s.length (some (.int (i : Nat))) o7 o8) (s ++ [.lst acc]) = .nx (otE a (.tup L) S st K s.length (some (.int (i : Nat))) o7 (some v)) (s ++ [.lst (acc ++ [putV a L i v])]) := by
      simp only [putV] at hap ⊢
      generalize L.take i = X at *
      generalize L.drop (i + 1) = Y at *
      generalize ((i : Nat) : Int) = ii at *
      generalize acc ++ [D.tup [.int a, .tup (X ++ v :: Y)]] = A2 at *
      simp [e_var, e_int, e_bl, e_non, e_str, e_tyn, e_con, e_bin, e_neg, e_cmp, e_chain, e_and, e_or, e_not, e_ite, e_tup, e_lst, e_idx, e_slc, e_dnewT, e_dgetT, e_fz, e_attr, e_isi, e_sset, e_new, e_call, e_bi, e_heard2, e_app, e_me, es_nil, es_cons, ts_nil, ts_cons, eo_none, eo_some, ec_none, ec_some, i_seq, i_rng, i_zip, i_enum, s_asg, s_par2, s_asgLc, s_asgLcF, s_put, s_putT, s_sat, s_ite, s_ret, s_ret0, s_raise, s_expr, ss_nil, ss_cons, Fl.then, Fl.res, Fn.fill, cmpT, forF_ap, otC, otB, otS, f__law_odd_theres, nth, forB, otE, hil, hap, c1, c2, b1, b2, l1, l2, Fy.T.froz]
    simp only [forLoop, stands, List.all_nil, if_true, e0, Fl.turn]
    rw [e]
    simp
theorem ot_out (k : Nat) (s : Sto) (a : Int) (ls : List Int) (hL : ls.length ≤ 3) (S st K : D) : ∀ (ks' : List Kd) (ls' : List Int) (i0 : Nat) (acc : List D) (o6 o7 o8 : Option D), (∀ (j : Nat) (l : Int), ls'[j]? = some l → ls[i0 + j]? = some l) → ls'.length = ks'.length → acc.length + 5 * ks'.length ≤ 1000 →
    ∃ q6 q7 q8 : Option D, forLoop (forF (enTg 6 7) (evSs (run tb wf k) wf otB)) [] (((ks'.map kD).zipIdx i0).map fun p => .tup [.int (p.2 : Nat), p.1]) (otE a (.tup (ls.map .int)) S st K s.length o6 o7 o8) (s ++ [.lst acc]) = .nx (otE a (.tup (ls.map .int)) S st K s.length q6 q7 q8) (s ++ [.lst (acc ++ otsF a (ls.map .int) i0 ks' ls')])
  | [], ls', i0, acc, o6, o7, o8, _, _, _ => ⟨o6, o7, o8, by simp [forLoop, stands, otsF]⟩
  | kd :: ks', [], i0, acc, o6, o7, o8, _, hl, _ => by simp at hl
  | kd :: ks', l :: ls', i0, acc, o6, o7, o8, hls, hl, hb => by
    simp only [List.length_cons] at hl hb
    have hi : ls[i0]? = some l := hls 0 l rfl
    have hilt := (List.getElem?_eq_some_iff.mp hi).1
    have hat := atI_map (f := D.int) hi
    obtain ⟨q8, e1⟩ := ot_in (tb := tb) (wf := wf) k s a (ls.map .int) (by simpa using hL) S st K i0 (by simpa using hilt) (some (kD kd)) [.int kd.many, .int (0 - 1), .non, .bl (decide (l = 1)), .tup [.int l]] acc o8 (by simp; omega)
    obtain ⟨p6, p7, p8, e2⟩ := ot_out k s a ls hL S st K ks' ls' (i0 + 1) (acc ++ ots5 a (ls.map .int) i0 l kd.many) (some (.int (i0 : Nat))) (some (kD kd)) q8 (fun j l' hj => by have := hls (j + 1) l' (by simpa using hj); rw [← this]; congr 1; omega) (by omega) (by simp [ots5]; omega)
    refine ⟨p6, p7, p8, ?_⟩
    have l1 : 1 ≤ LIM := by decide
    have l5 : 5 ≤ LIM := by decide
    have hf := s_for (cf := run tb wf k) (wf := wf) (t := .nm 8) (it := .seq (.lst (.cons (.idx (.var 7) (.int 0)) (.cons (.bin .sub (.int 0) (.int 1)) (.cons .non (.cons (.cmp .eq (.idx (.var 4) (.var 6)) (.int 1)) (.cons (.tup (.cons (.idx (.var 4) (.var 6)) .nil)) .nil))))))) (b := otC) (ρ := otE a (.tup (ls.map .int)) S st K s.length (some (.int (i0 : Nat))) (some (kD kd)) o8) (s := s ++ [.lst acc]) (s' := s ++ [.lst acc]) (I := ⟨[.int kd.many, .int (0 - 1), .non, .bl (decide (l = 1)), .tup [.int l]], []⟩) (by
      generalize ls.map D.int = L at *
      generalize ((i0 : Nat) : Int) = ii at *
      simp [e_var, e_int, e_bl, e_non, e_str, e_tyn, e_con, e_bin, e_neg, e_cmp, e_chain, e_and, e_or, e_not, e_ite, e_tup, e_lst, e_idx, e_slc, e_dnewT, e_dgetT, e_fz, e_attr, e_isi, e_sset, e_new, e_call, e_bi, e_heard2, e_app, e_me, es_nil, es_cons, ts_nil, ts_cons, eo_none, eo_some, ec_none, ec_some, i_seq, i_rng, i_zip, i_enum, s_asg, s_par2, s_asgLc, s_asgLcF, s_put, s_putT, s_sat, s_ite, s_ret, s_ret0, s_raise, s_expr, ss_nil, ss_cons, Fl.then, Fl.res, Fn.fill, cmpT, otE, kD, hat, l1, l5])
    simp only at hf
    rw [e1] at hf
    have e0 : forF (enTg 6 7) (evSs (run tb wf k) wf otB) (.tup [.int (i0 : Nat), kD kd]) (otE a (.tup (ls.map .int)) S st K s.length o6 o7 o8) (s ++ [.lst acc]) = .nx (otE a (.tup (ls.map .int)) S st K s.length (some (.int (i0 : Nat))) (some (kD kd)) q8) (s ++ [.lst (acc ++ ots5 a (ls.map .int) i0 l kd.many)]) := by
      have hb : otB = .cons (.for_ (.nm 8) (.seq (.lst (.cons (.idx (.var 7) (.int 0)) (.cons (.bin .sub (.int 0) (.int 1)) (.cons .non (.cons (.cmp .eq (.idx (.var 4) (.var 6)) (.int 1)) (.cons (.tup (.cons (.idx (.var 4) (.var 6)) .nil)) .nil))))))) otC) .nil := rfl
      rw [forF_ap, hb]
      simp only [enTg, bt_tp, bts_cons, bts_nil, bt_nm, tl_cons, tl_nil, List.length_cons, List.length_nil, if_true, Option.bind_some]
      rw [ss_cons]
      have hset : ((otE a (.tup (ls.map .int)) S st K s.length o6 o7 o8).set 6 (some (.int (i0 : Nat)))).set 7 (some (kD kd)) = otE a (.tup (ls.map .int)) S st K s.length (some (.int (i0 : Nat))) (some (kD kd)) o8 := rfl
      rw [hset, hf]
      simp only [Fl.then, ss_nil]
      rfl
    simp only [List.map_cons, List.zipIdx_cons, forLoop, stands, List.all_nil, if_true, e0, Fl.turn]
    rw [e2]
    simp [otsF]
theorem odd_theres (T : H__law_odd_theres tb) (k : Nat) (s : Sto) {st : Int} {ks : List Kd} (hl : ks.length ≤ 3) {a : Int} {ls : List Int} (hs : SitOk st ks a ls) :
    run tb wf (k+1) "_law_odd_theres" [sitD a ls, .int st, .fro (ks.map kD)] s = .ok (.l (ots a st ks ls)) s := by
  have hlen := hs.len
  have l0 : 0 ≤ LIM := by decide
  have l1 : 1 ≤ LIM := by decide
  have l2 : 2 ≤ LIM := by decide
  have l3 : 3 ≤ LIM := by decide
  have l12 : 12 ≤ LIM := by decide
  have e0 : evS (run tb wf k) wf (otS 0) [some (sitD a ls), some (.int st), some (.fro (ks.map kD)), none, none, none, none, none, none] s =
      .nx [some (sitD a ls), some (.int st), some (.fro (ks.map kD)), some (.int a), some (.tup (ls.map .int)), none, none, none, none] s := by
    simp [e_var, e_int, e_bl, e_non, e_str, e_tyn, e_con, e_bin, e_neg, e_cmp, e_chain, e_and, e_or, e_not, e_ite, e_tup, e_lst, e_idx, e_slc, e_dnewT, e_dgetT, e_fz, e_attr, e_isi, e_sset, e_new, e_call, e_bi, e_heard2, e_app, e_me, es_nil, es_cons, ts_nil, ts_cons, eo_none, eo_some, ec_none, ec_some, i_seq, i_rng, i_zip, i_enum, s_asg, s_par2, s_asgLc, s_asgLcF, s_put, s_putT, s_sat, s_ite, s_ret, s_ret0, s_raise, s_expr, ss_nil, ss_cons, Fl.then, Fl.res, Fn.fill, cmpT, otS, f__law_odd_theres, nth, sitD]
  have e1 : evS (run tb wf k) wf (otS 1) [some (sitD a ls), some (.int st), some (.fro (ks.map kD)), some (.int a), some (.tup (ls.map .int)), none, none, none, none] s =
      .nx (otE a (.tup (ls.map .int)) (sitD a ls) (.int st) (.fro (ks.map kD)) s.length none none none) (s ++ [.lst (ots12 a st (ls.map .int))]) := by
    have hb : (ls.map D.int).length + 1 ≤ LIM := LIM_le (by simp; omega)
    simp only [sitD, ots12]
    generalize ls.map D.int = L at *
    generalize hCL : cutD L (some 1) none = CL
    simp [e_var, e_int, e_bl, e_non, e_str, e_tyn, e_con, e_bin, e_neg, e_cmp, e_chain, e_and, e_or, e_not, e_ite, e_tup, e_lst, e_idx, e_slc, e_dnewT, e_dgetT, e_fz, e_attr, e_isi, e_sset, e_new, e_call, e_bi, e_heard2, e_app, e_me, es_nil, es_cons, ts_nil, ts_cons, eo_none, eo_some, ec_none, ec_some, i_seq, i_rng, i_zip, i_enum, s_asg, s_par2, s_asgLc, s_asgLcF, s_put, s_putT, s_sat, s_ite, s_ret, s_ret0, s_raise, s_expr, ss_nil, ss_cons, Fl.then, Fl.res, Fn.fill, cmpT, otS, f__law_odd_theres, nth, otE, l0, l1, l2, l3, l12, hb, hCL, Fy.T.froz]
  have e2 : evS (run tb wf k) wf (otS 2) (otE a (.tup (ls.map .int)) (sitD a ls) (.int st) (.fro (ks.map kD)) s.length none none none) (s ++ [.lst (ots12 a st (ls.map .int))]) =
      .nx (otE a (.tup (ls.map .int)) (sitD a ls) (.int st) (.fro (ks.map kD)) (s ++ [O.lst (ots12 a st (ls.map .int))]).length none none none) (s ++ [.lst (ots12 a st (ls.map .int))] ++ [.lst (ots12 a st (ls.map .int) ++ ots3 a (ls.map .int))]) := by
    have at_ : (s ++ [O.lst (ots12 a st (ls.map .int))])[s.length]? = some (.lst (ots12 a st (ls.map .int))) := by simp
    have hb : binT .add (.v (.loc s.length)) (.l (ots3 a (ls.map .int))) (s ++ [.lst (ots12 a st (ls.map .int))]) = some (.l (ots12 a st (ls.map .int) ++ ots3 a (ls.map .int))) := by
      have h1 : lstOf (.v (.loc s.length)) (s ++ [O.lst (ots12 a st (ls.map .int))]) = some (ots12 a st (ls.map .int)) := lst_loc _ at_
      simp only [binT, h1, lst_l, Option.bind_some]
      rw [if_pos (LIM_le (by simp [ots12, ots3]))]
    generalize hA : ots12 a st (ls.map .int) ++ ots3 a (ls.map .int) = A at *
    simp only [ots3] at hb
    generalize ots12 a st (ls.map .int) = B at *
    generalize ls.map D.int = L at *
    simp [e_var, e_int, e_bl, e_non, e_str, e_tyn, e_con, e_bin, e_neg, e_cmp, e_chain, e_and, e_or, e_not, e_ite, e_tup, e_lst, e_idx, e_slc, e_dnewT, e_dgetT, e_fz, e_attr, e_isi, e_sset, e_new, e_call, e_bi, e_heard2, e_app, e_me, es_nil, es_cons, ts_nil, ts_cons, eo_none, eo_some, ec_none, ec_some, i_seq, i_rng, i_zip, i_enum, s_asg, s_par2, s_asgLc, s_asgLcF, s_put, s_putT, s_sat, s_ite, s_ret, s_ret0, s_raise, s_expr, ss_nil, ss_cons, Fl.then, Fl.res, Fn.fill, cmpT, otS, f__law_odd_theres, nth, otE, l0, l1, l2, l3, hb]
  obtain ⟨q6, q7, q8, ef⟩ := ot_out (tb := tb) (wf := wf) k (s ++ [.lst (ots12 a st (ls.map .int))]) a ls (by omega) (sitD a ls) (.int st) (.fro (ks.map kD)) ks ls 0 (ots12 a st (ls.map .int) ++ ots3 a (ls.map .int)) none none none (fun j l hj => by simpa using hj) hlen (by simp [ots12, ots3]; omega)
  have hf := s_for (cf := run tb wf k) (wf := wf) (t := enTg 6 7) (it := .enum (.var 2)) (b := otB) (ρ := otE a (.tup (ls.map .int)) (sitD a ls) (.int st) (.fro (ks.map kD)) (s ++ [O.lst (ots12 a st (ls.map .int))]).length none none none) (s := s ++ [.lst (ots12 a st (ls.map .int))] ++ [.lst (ots12 a st (ls.map .int) ++ ots3 a (ls.map .int))]) (s' := s ++ [.lst (ots12 a st (ls.map .int))] ++ [.lst (ots12 a st (ls.map .int) ++ ots3 a (ls.map .int))]) (I := ⟨(ks.map kD).zipIdx.map fun p => .tup [.int (p.2 : Nat), p.1], []⟩) (by simp [e_var, e_int, e_bl, e_non, e_str, e_tyn, e_con, e_bin, e_neg, e_cmp, e_chain, e_and, e_or, e_not, e_ite, e_tup, e_lst, e_idx, e_slc, e_dnewT, e_dgetT, e_fz, e_attr, e_isi, e_sset, e_new, e_call, e_bi, e_heard2, e_app, e_me, es_nil, es_cons, ts_nil, ts_cons, eo_none, eo_some, ec_none, ec_some, i_seq, i_rng, i_zip, i_enum, s_asg, s_par2, s_asgLc, s_asgLcF, s_put, s_putT, s_sat, s_ite, s_ret, s_ret0, s_raise, s_expr, ss_nil, ss_cons, Fl.then, Fl.res, Fn.fill, cmpT, otE])
  simp only at hf
  rw [ef] at hf
  have e3 : evS (run tb wf k) wf (otS 3) (otE a (.tup (ls.map .int)) (sitD a ls) (.int st) (.fro (ks.map kD)) (s ++ [O.lst (ots12 a st (ls.map .int))]).length none none none) (s ++ [.lst (ots12 a st (ls.map .int))] ++ [.lst (ots12 a st (ls.map .int) ++ ots3 a (ls.map .int))]) = _ := hf
  have e4 : ∀ s', evS (run tb wf k) wf (otS 4) (otE a (.tup (ls.map .int)) (sitD a ls) (.int st) (.fro (ks.map kD)) (s ++ [O.lst (ots12 a st (ls.map .int))]).length q6 q7 q8) s' = .rt (.v (.loc (s ++ [O.lst (ots12 a st (ls.map .int))]).length)) s' := fun s' => by
    simp [e_var, e_int, e_bl, e_non, e_str, e_tyn, e_con, e_bin, e_neg, e_cmp, e_chain, e_and, e_or, e_not, e_ite, e_tup, e_lst, e_idx, e_slc, e_dnewT, e_dgetT, e_fz, e_attr, e_isi, e_sset, e_new, e_call, e_bi, e_heard2, e_app, e_me, es_nil, es_cons, ts_nil, ts_cons, eo_none, eo_some, ec_none, ec_some, i_seq, i_rng, i_zip, i_enum, s_asg, s_par2, s_asgLc, s_asgLcF, s_put, s_putT, s_sat, s_ite, s_ret, s_ret0, s_raise, s_expr, ss_nil, ss_cons, Fl.then, Fl.res, Fn.fill, cmpT, otS, f__law_odd_theres, nth, otE]
  have hpl : pls (ots a st ks ls) = true := by
    by_cases h0 : ks = []
    · subst h0
      have : ls = [] := by cases ls with | nil => rfl | cons _ _ => simp at hlen
      subst this
      simp [ots, ots12, ots3, otsF, pls, pl, cut_1]
    · exact pls_of fun x hx => (ots_bad hs h0 x hx).1
  have hst : s ++ [O.lst (ots12 a st (ls.map .int))] ++ [.lst (ots a st ks ls)] = s ++ [.lst (ots12 a st (ls.map .int)), .lst (ots a st ks ls)] := by simp
  have ht := (Kp.app s [.lst (ots12 a st (ls.map .int)), .lst (ots a st ks ls)]).ll (m := (s ++ [O.lst (ots12 a st (ls.map .int))]).length) (by simp) (by rw [← hst]; simp) (unders_le (Nat.zero_le _) _ (pls_under _ hpl))
  rw [← hst] at ht
  have hots : ots12 a st (ls.map .int) ++ ots3 a (ls.map .int) ++ otsF a (ls.map .int) 0 ks ls = ots a st ks ls := rfl
  rw [hots] at e3
  rw [run, T._law_odd_theres]
  show Fl.res s (evSs (run tb wf k) wf f__law_odd_theres.body [some (sitD a ls), some (.int st), some (.fro (ks.map kD)), none, none, none, none, none, none] s) = _
  rw [ot_body]
  simp only [ss_cons, e0, e1, e2, e3, e4, Fl.then, Fl.res, ht]
end
end Fam
end
section
set_option Elab.async false
set_option linter.all false
set_option maxRecDepth 100000
set_option maxHeartbeats 1000000
set_option linter.unusedSimpArgs false
/-! Mr: the law of situations and moves, walked. -/
namespace Fam
open Fy
theorem sit_true {st : Int} {ks : List Kd} {a : Int} {ls : List Int} (hs : SitOk st ks a ls) : sitB st ks (sitD a ls) = true := by
  have hlen := hs.len
  simp only [sitB, sitD, num, rowB, Bool.and_eq_true, decide_eq_true_eq, List.length_map, List.all_eq_true]
  refine ⟨⟨hs.a0, by have := hs.a1; omega⟩, hlen, fun p hp => ?_⟩
  obtain ⟨i, hi⟩ := List.mem_iff_getElem?.mp hp
  rw [List.getElem?_zip_eq_some] at hi
  obtain ⟨h1, h2⟩ := hi
  rw [List.getElem?_map, Option.map_eq_some_iff] at h1 h2
  obtain ⟨l, h1, e1⟩ := h1
  obtain ⟨kd, h2, e2⟩ := h2
  have := hs.ok i kd l h2 h1
  rw [← e1, ← e2]
  simp only [num, Bool.and_eq_true, decide_eq_true_eq]
  omega
section
variable {tb : Tab} {wf : Nat}
/-! ### with a crowd -/
section
variable {s : Sto} {n : Nat} {st start : Int} {ks : List Kd} {c : Kd}
theorem opening_no (T : H_opening tb) (k : Nat) (h : TeamAt s n st start ks [c]) : run tb wf (k+2) "opening" [.loc n] s = .ex ⟨"Refused", .str "crowds"⟩ s := by
  have e1 := need_no (wf := wf) T.toH_need_singles k h
  have hr := fun ρ => res_ex (ρ := ρ) (x := ⟨"Refused", .str "crowds"⟩) (Kp.self s) rfl
  simp only [Fl.res] at hr
  rw [run, T.opening]
  simp [e_var, e_int, e_bl, e_non, e_str, e_tyn, e_con, e_bin, e_neg, e_cmp, e_chain, e_and, e_or, e_not, e_ite, e_tup, e_lst, e_idx, e_slc, e_dnewT, e_dgetT, e_fz, e_attr, e_isi, e_sset, e_new, e_call, e_bi, e_heard2, e_app, e_me, es_nil, es_cons, ts_nil, ts_cons, eo_none, eo_some, ec_none, ec_some, i_seq, i_rng, i_zip, i_enum, s_asg, s_par2, s_asgLc, s_asgLcF, s_put, s_putT, s_sat, s_ite, s_ret, s_ret0, s_raise, s_expr, ss_nil, ss_cons, Fl.then, Fl.res, Fn.fill, cmpT, f_opening, e1, hr]
theorem is_situation_no (T : H_is_situation tb) (k : Nat) (h : TeamAt s n st start ks [c]) (d : D) : run tb wf (k+2) "is_situation" [.loc n, d] s = .ex ⟨"Refused", .str "crowds"⟩ s := by
  have e1 := need_no (wf := wf) T.toH_need_singles k h
  have hr := fun ρ => res_ex (ρ := ρ) (x := ⟨"Refused", .str "crowds"⟩) (Kp.self s) rfl
  simp only [Fl.res] at hr
  rw [run, T.is_situation]
  simp [e_var, e_int, e_bl, e_non, e_str, e_tyn, e_con, e_bin, e_neg, e_cmp, e_chain, e_and, e_or, e_not, e_ite, e_tup, e_lst, e_idx, e_slc, e_dnewT, e_dgetT, e_fz, e_attr, e_isi, e_sset, e_new, e_call, e_bi, e_heard2, e_app, e_me, es_nil, es_cons, ts_nil, ts_cons, eo_none, eo_some, ec_none, ec_some, i_seq, i_rng, i_zip, i_enum, s_asg, s_par2, s_asgLc, s_asgLcF, s_put, s_putT, s_sat, s_ite, s_ret, s_ret0, s_raise, s_expr, ss_nil, ss_cons, Fl.then, Fl.res, Fn.fill, cmpT, f_is_situation, e1, hr]
theorem moves_at_no (T : H_moves_at tb) (k : Nat) (h : TeamAt s n st start ks [c]) (d : D) : run tb wf (k+2) "moves_at" [.loc n, d] s = .ex ⟨"Refused", .str "crowds"⟩ s := by
  have e1 := need_no (wf := wf) T.toH_need_singles k h
  have hr := fun ρ => res_ex (ρ := ρ) (x := ⟨"Refused", .str "crowds"⟩) (Kp.self s) rfl
  simp only [Fl.res] at hr
  rw [run, T.moves_at]
  simp [e_var, e_int, e_bl, e_non, e_str, e_tyn, e_con, e_bin, e_neg, e_cmp, e_chain, e_and, e_or, e_not, e_ite, e_tup, e_lst, e_idx, e_slc, e_dnewT, e_dgetT, e_fz, e_attr, e_isi, e_sset, e_new, e_call, e_bi, e_heard2, e_app, e_me, es_nil, es_cons, ts_nil, ts_cons, eo_none, eo_some, ec_none, ec_some, i_seq, i_rng, i_zip, i_enum, s_asg, s_par2, s_asgLc, s_asgLcF, s_put, s_putT, s_sat, s_ite, s_ret, s_ret0, s_raise, s_expr, ss_nil, ss_cons, Fl.then, Fl.res, Fn.fill, cmpT, f_moves_at, e1, hr]
theorem is_stuck_no (T : H_is_stuck tb) (k : Nat) (h : TeamAt s n st start ks [c]) (d : D) : run tb wf (k+3) "is_stuck" [.loc n, d] s = .ex ⟨"Refused", .str "crowds"⟩ s := by
  have e1 := moves_at_no (wf := wf) T.toH_moves_at k h d
  have hr := fun ρ => res_ex (ρ := ρ) (x := ⟨"Refused", .str "crowds"⟩) (Kp.self s) rfl
  simp only [Fl.res] at hr
  rw [run, T.is_stuck]
  simp [e_var, e_int, e_bl, e_non, e_str, e_tyn, e_con, e_bin, e_neg, e_cmp, e_chain, e_and, e_or, e_not, e_ite, e_tup, e_lst, e_idx, e_slc, e_dnewT, e_dgetT, e_fz, e_attr, e_isi, e_sset, e_new, e_call, e_bi, e_heard2, e_app, e_me, es_nil, es_cons, ts_nil, ts_cons, eo_none, eo_some, ec_none, ec_some, i_seq, i_rng, i_zip, i_enum, s_asg, s_par2, s_asgLc, s_asgLcF, s_put, s_putT, s_sat, s_ite, s_ret, s_ret0, s_raise, s_expr, ss_nil, ss_cons, Fl.then, Fl.res, Fn.fill, cmpT, f_is_stuck, e1, hr]
theorem is_move_at_no (T : H_is_move_at tb) (k : Nat) (h : TeamAt s n st start ks [c]) (d e : D) : run tb wf (k+2) "is_move_at" [.loc n, d, e] s = .ex ⟨"Refused", .str "crowds"⟩ s := by
  have e1 := need_no (wf := wf) T.toH_need_singles k h
  have hr := fun ρ => res_ex (ρ := ρ) (x := ⟨"Refused", .str "crowds"⟩) (Kp.self s) rfl
  simp only [Fl.res] at hr
  rw [run, T.is_move_at]
  simp [e_var, e_int, e_bl, e_non, e_str, e_tyn, e_con, e_bin, e_neg, e_cmp, e_chain, e_and, e_or, e_not, e_ite, e_tup, e_lst, e_idx, e_slc, e_dnewT, e_dgetT, e_fz, e_attr, e_isi, e_sset, e_new, e_call, e_bi, e_heard2, e_app, e_me, es_nil, es_cons, ts_nil, ts_cons, eo_none, eo_some, ec_none, ec_some, i_seq, i_rng, i_zip, i_enum, s_asg, s_par2, s_asgLc, s_asgLcF, s_put, s_putT, s_sat, s_ite, s_ret, s_ret0, s_raise, s_expr, ss_nil, ss_cons, Fl.then, Fl.res, Fn.fill, cmpT, f_is_move_at, e1, hr]
theorem gone_cr (T : H_gone tb) (k : Nat) (h : TeamAt s n st start ks [c]) (d e : D) : run tb wf (k+3) "gone" [.loc n, d, e] s = .ex ⟨"Refused", .str "crowds"⟩ s := by
  have e1 := is_move_at_no (wf := wf) T.toH_is_move_at k h d e
  have hr := fun ρ => res_ex (ρ := ρ) (x := ⟨"Refused", .str "crowds"⟩) (Kp.self s) rfl
  simp only [Fl.res] at hr
  rw [run, T.gone]
  simp [e_var, e_int, e_bl, e_non, e_str, e_tyn, e_con, e_bin, e_neg, e_cmp, e_chain, e_and, e_or, e_not, e_ite, e_tup, e_lst, e_idx, e_slc, e_dnewT, e_dgetT, e_fz, e_attr, e_isi, e_sset, e_new, e_call, e_bi, e_heard2, e_app, e_me, es_nil, es_cons, ts_nil, ts_cons, eo_none, eo_some, ec_none, ec_some, i_seq, i_rng, i_zip, i_enum, s_asg, s_par2, s_asgLc, s_asgLcF, s_put, s_putT, s_sat, s_ite, s_ret, s_ret0, s_raise, s_expr, ss_nil, ss_cons, Fl.then, Fl.res, Fn.fill, cmpT, f_gone, e1, hr]
end
end
/-- what the law asks of a table -/
structure HL (tb : Tab) : Prop extends H__law_well tb, H__law_team tb, H_Team___init__ tb, H__law_opening tb, H_opening tb, H__law_like tb, H_is_situation tb, H__law_moves_told tb, H__law_any_there tb, H__law_odd_theres tb where
  law : tb "law" = some K08.f_law
def ssTail : Ss → Nat → Ss
  | s, 0 => s
  | .cons _ r, n + 1 => ssTail r n
  | s, _ => s
abbrev lwS (i : Nat) : S := nth K08.f_law.body i
def wkT : Ss := ssTail K08.f_law.body 9
theorem lw_body : K08.f_law.body = .cons (lwS 0) (.cons (lwS 1) (.cons (lwS 2) (.cons (lwS 3) (.cons (lwS 4) (.cons (lwS 5) (.cons (lwS 6) (.cons (lwS 7) (.cons (lwS 8) wkT)))))))) := rfl
abbrev lwE (x : D) (st start : Int) (K : D) (n : Nat) (o6 o7 o8 o9 o10 : Option D) : Env := [some x, some (.loc 0), some (.int st), some (.int start), some K, some (.loc n), o6, o7, o8, o9, o10, none, none, none]
def lwB : Ss := forB (lwS 6)
section
variable {tb : Tab} {wf : Nat}
theorem lw_turn (T : HL tb) (k : Nat) (x : D) {n : Nat} {st start : Int} (h1 : 1 ≤ st) (h3 : st ≤ 3) {ks : List Kd} (hk : ∀ kd ∈ ks, KOk st kd) (h0 : ks ≠ []) (hl : ks.length ≤ 3) {w : Int × Int × Int} {r : Sto} (h : TeamAt (Wl w r) (n + 1) st start ks []) {z : Int} (hw : Ok z w) (hz : z + 40 ≤ 1000000000) {a : Int} {ls : List Int} (hs : SitOk st ks a ls) (tn : D) (o6 o8 o9 o10 : Option D) :
    ∃ (a' : Int) (ls' : List Int) (w' : Int × Int × Int) (q9 : Option D), SitOk st ks a' ls' ∧ Ok (z + 40) w' ∧
      forF (.nm 8) (evSs (run tb wf (k+7)) wf lwB) tn (lwE x st start (.fro (ks.map kD)) (n + 1) o6 (some (sitD a ls)) o8 o9 o10) (Wl w r) = .nx (lwE x st start (.fro (ks.map kD)) (n + 1) o6 (some (sitD a' ls')) (some tn) q9 o10) (Wl w' r) := by
  have hml := mv_len a 0 ks ls hk
  have e1 := is_situation (wf := wf) T.toH_is_situation (k+3) h (by omega) (sit_pl a ls)
  rw [sit_true hs] at e1
  obtain ⟨w1, o1, e2⟩ := moves_told (wf := wf) T.toH__law_moves_told k h1 h3 hk h0 hl h hw (by omega) hs
  have e3 := law_moves (wf := wf) T.toH__law_moves_told.toH__law_moves (k+6) (s := Wl w1 r) hk hl hs
  have e4 := eq_fsts0 (mvF a 0 ks ls) (Wl w1 r)
  have l0 : 0 ≤ LIM := by decide
  by_cases hmv : mvF a 0 ks ls = []
  · rw [decide_eq_true hmv] at e4
    obtain ⟨a', ls', w2, hs', o2, e5⟩ := law_any (wf := wf) T.toH__law_any_there (k+5) (r := r) hk hl h1 h3 o1 (by omega)
    refine ⟨a', ls', w2, some (.fro ((mvF a 0 ks ls).map stD)), hs', o2.le (by omega) hz, ?_⟩
    generalize sitD a' ls' = S2 at *
    generalize sitD a ls = S at *
    generalize (mvF a 0 ks ls).map stD = X at *
    generalize ks.map kD = K at *
    simp [e_var, e_int, e_bl, e_non, e_str, e_tyn, e_con, e_bin, e_neg, e_cmp, e_chain, e_and, e_or, e_not, e_ite, e_tup, e_lst, e_idx, e_slc, e_dnewT, e_dgetT, e_fz, e_attr, e_isi, e_sset, e_new, e_call, e_bi, e_heard2, e_app, e_me, es_nil, es_cons, ts_nil, ts_cons, eo_none, eo_some, ec_none, ec_some, i_seq, i_rng, i_zip, i_enum, s_asg, s_par2, s_asgLc, s_asgLcF, s_put, s_putT, s_sat, s_ite, s_ret, s_ret0, s_raise, s_expr, ss_nil, ss_cons, Fl.then, Fl.res, Fn.fill, cmpT, forF_ap, lwB, lwS, K08.f_law, nth, forB, lwE, e1, e2, e3, e4, e5, l0, Fy.T.froz]
  · rw [decide_eq_false hmv] at e4
    obtain ⟨d, w2, d0, d1, o2, e6⟩ := dip (wf := wf) T.toH__law_any_there.toH__law_dip (k+6) (m := 3) (r := r) o1 (by omega) (by omega) (by omega)
    by_cases hd : d = 0
    · subst hd
      obtain ⟨a', ls', w3, hs', o3, e5⟩ := law_any (wf := wf) T.toH__law_any_there (k+5) (r := r) hk hl h1 h3 o2 (by omega)
      refine ⟨a', ls', w3, some (.fro ((mvF a 0 ks ls).map stD)), hs', o3.le (by omega) hz, ?_⟩
      generalize sitD a' ls' = S2 at *
      generalize sitD a ls = S at *
      generalize (mvF a 0 ks ls).map stD = X at *
      generalize ks.map kD = K at *
      simp [e_var, e_int, e_bl, e_non, e_str, e_tyn, e_con, e_bin, e_neg, e_cmp, e_chain, e_and, e_or, e_not, e_ite, e_tup, e_lst, e_idx, e_slc, e_dnewT, e_dgetT, e_fz, e_attr, e_isi, e_sset, e_new, e_call, e_bi, e_heard2, e_app, e_me, es_nil, es_cons, ts_nil, ts_cons, eo_none, eo_some, ec_none, ec_some, i_seq, i_rng, i_zip, i_enum, s_asg, s_par2, s_asgLc, s_asgLcF, s_put, s_putT, s_sat, s_ite, s_ret, s_ret0, s_raise, s_expr, ss_nil, ss_cons, Fl.then, Fl.res, Fn.fill, cmpT, forF_ap, lwB, lwS, K08.f_law, nth, forB, lwE, e1, e2, e3, e4, e5, e6, l0, Fy.T.froz]
    · obtain ⟨y, w3, hy, o3, e7⟩ := one (wf := wf) T.toH__law_moves_told.toH__law_one (k+5) (X := .fro ((mvF a 0 ks ls).map stD)) (r := r) (.inl rfl) o2 (by omega) (by simpa using hmv) (by simp; omega) (pls_under _ (st_pls _))
      obtain ⟨m, hm, rfl⟩ := List.mem_map.mp hy
      have e8 := law_led (wf := wf) T.toH__law_moves_told.toH__law_led (k+6) (s := Wl w3 r) hk hl hs (.inl hm)
      refine ⟨(ledS a ls m).1, (ledS a ls m).2, w3, some (.fro ((mvF a 0 ks ls).map stD)), led_ok hk hs (.inl hm), o3.le (by omega) hz, ?_⟩
      generalize sitD (ledS a ls m).1 (ledS a ls m).2 = S2 at *
      generalize sitD a ls = S at *
      generalize (mvF a 0 ks ls).map stD = X at *
      generalize ks.map kD = K at *
      generalize stD m = M at *
      simp [e_var, e_int, e_bl, e_non, e_str, e_tyn, e_con, e_bin, e_neg, e_cmp, e_chain, e_and, e_or, e_not, e_ite, e_tup, e_lst, e_idx, e_slc, e_dnewT, e_dgetT, e_fz, e_attr, e_isi, e_sset, e_new, e_call, e_bi, e_heard2, e_app, e_me, es_nil, es_cons, ts_nil, ts_cons, eo_none, eo_some, ec_none, ec_some, i_seq, i_rng, i_zip, i_enum, s_asg, s_par2, s_asgLc, s_asgLcF, s_put, s_putT, s_sat, s_ite, s_ret, s_ret0, s_raise, s_expr, ss_nil, ss_cons, Fl.then, Fl.res, Fn.fill, cmpT, forF_ap, lwB, lwS, K08.f_law, nth, forB, lwE, e1, e2, e3, e4, e6, e7, e8, hd, l0, Fy.T.froz]
theorem lw_loop (T : HL tb) (k : Nat) (x : D) {n : Nat} {st start : Int} (h1 : 1 ≤ st) (h3 : st ≤ 3) {ks : List Kd} (hk : ∀ kd ∈ ks, KOk st kd) (h0 : ks ≠ []) (hl : ks.length ≤ 3) {r : Sto} (o6 o10 : Option D) :
    ∀ (tns : List D) (w : Int × Int × Int) (z : Int) (a : Int) (ls : List Int) (o8 o9 : Option D), TeamAt (Wl w r) (n + 1) st start ks [] → Ok z w → z + 40 * tns.length ≤ 1000000000 → SitOk st ks a ls →
      ∃ (a' : Int) (ls' : List Int) (w' : Int × Int × Int) (q8 q9 : Option D), SitOk st ks a' ls' ∧ TeamAt (Wl w' r) (n + 1) st start ks [] ∧
        forLoop (forF (.nm 8) (evSs (run tb wf (k+7)) wf lwB)) [] tns (lwE x st start (.fro (ks.map kD)) (n + 1) o6 (some (sitD a ls)) o8 o9 o10) (Wl w r) = .nx (lwE x st start (.fro (ks.map kD)) (n + 1) o6 (some (sitD a' ls')) q8 q9 o10) (Wl w' r)
  | [], w, z, a, ls, o8, o9, h, _, _, hs => ⟨a, ls, w, o8, o9, hs, h, by simp [forLoop, stands]⟩
  | tn :: tns, w, z, a, ls, o8, o9, h, hw, hz, hs => by
    simp only [List.length_cons] at hz
    obtain ⟨a1, ls1, w1, p9, hs1, o1, e1⟩ := lw_turn (wf := wf) T k x h1 h3 hk h0 hl h hw (by omega) hs tn o6 o8 o9 o10
    obtain ⟨a2, ls2, w2, q8, q9, hs2, h2, e2⟩ := lw_loop T k x h1 h3 hk h0 hl o6 o10 tns w1 (z + 40) a1 ls1 (some tn) p9 (h.wl (w' := w1)) o1 (by omega) hs1
    refine ⟨a2, ls2, w2, q8, q9, hs2, h2, ?_⟩
    simp only [forLoop, stands, List.all_nil, if_true, e1, Fl.turn]
    exact e2
theorem lw_s0 (T : HL tb) (k : Nat) (ns : List Int) : ∃ w, Ok 0 w ∧ evS (run tb wf (k+1)) wf (lwS 0) [some (.fro (ns.map .int)), none, none, none, none, none, none, none, none, none, none, none, none, none] [] =
    .nx [some (.fro (ns.map .int)), some (.loc 0), none, none, none, none, none, none, none, none, none, none, none, none] (Wl w []) := by
  obtain ⟨w, o, e⟩ := well (wf := wf) T.toH__law_well k ns
  refine ⟨w, o, ?_⟩
  generalize ns.map D.int = X at *
  simp [e_var, e_int, e_bl, e_non, e_str, e_tyn, e_con, e_bin, e_neg, e_cmp, e_chain, e_and, e_or, e_not, e_ite, e_tup, e_lst, e_idx, e_slc, e_dnewT, e_dgetT, e_fz, e_attr, e_isi, e_sset, e_new, e_call, e_bi, e_heard2, e_app, e_me, es_nil, es_cons, ts_nil, ts_cons, eo_none, eo_some, ec_none, ec_some, i_seq, i_rng, i_zip, i_enum, s_asg, s_par2, s_asgLc, s_asgLcF, s_put, s_putT, s_sat, s_ite, s_ret, s_ret0, s_raise, s_expr, ss_nil, ss_cons, Fl.then, Fl.res, Fn.fill, cmpT, lwS, K08.f_law, nth, e, Wl]
theorem lw_s1 (T : HL tb) (k : Nat) (x : D) {w : Int × Int × Int} (hw : Ok 0 w) : ∃ (st start : Int) (ks : List Kd) (w' : Int × Int × Int), (1 ≤ st ∧ st ≤ 3) ∧ (0 ≤ start ∧ start < st) ∧ ks ≠ [] ∧ ks.length ≤ 3 ∧ (∀ kd ∈ ks, KOk st kd) ∧ Ok 200 w' ∧
    evS (run tb wf (k+4)) wf (lwS 1) [some x, some (.loc 0), none, none, none, none, none, none, none, none, none, none, none, none] (Wl w []) =
    .nx [some x, some (.loc 0), some (.int st), some (.int start), some (.fro (ks.map kD)), none, none, none, none, none, none, none, none, none] (Wl w' []) := by
  obtain ⟨st, start, ks, w', a1, a2, a3, a4, a5, a6, e⟩ := law_team (wf := wf) T.toH__law_team k (r := []) hw (by decide)
  refine ⟨st, start, ks, w', a1, a2, a3, a4, a5, by simpa using a6, ?_⟩
  generalize ks.map kD = X at *
  simp [e_var, e_int, e_bl, e_non, e_str, e_tyn, e_con, e_bin, e_neg, e_cmp, e_chain, e_and, e_or, e_not, e_ite, e_tup, e_lst, e_idx, e_slc, e_dnewT, e_dgetT, e_fz, e_attr, e_isi, e_sset, e_new, e_call, e_bi, e_heard2, e_app, e_me, es_nil, es_cons, ts_nil, ts_cons, eo_none, eo_some, ec_none, ec_some, i_seq, i_rng, i_zip, i_enum, s_asg, s_par2, s_asgLc, s_asgLcF, s_put, s_putT, s_sat, s_ite, s_ret, s_ret0, s_raise, s_expr, ss_nil, ss_cons, Fl.then, Fl.res, Fn.fill, cmpT, lwS, K08.f_law, nth, e]
theorem lw_s2 (T : HL tb) (k : Nat) (x : D) (w : Int × Int × Int) {st start : Int} (h1 : 1 ≤ st) (h3 : st ≤ 3) (g0 : 0 ≤ start) (g1 : start < st) {ks : List Kd} (hk : ∀ kd ∈ ks, KOk st kd) (h0 : ks ≠ []) (hl : ks.length ≤ 3) :
    ∃ r : Sto, TeamAt (Wl w r) 1 st start ks [] ∧ evS (run tb wf (k+5)) wf (lwS 2) [some x, some (.loc 0), some (.int st), some (.int start), some (.fro (ks.map kD)), none, none, none, none, none, none, none, none, none] (Wl w []) =
      .nx (lwE x st start (.fro (ks.map kD)) 1 none none none none none) (Wl w r) := by
  have hpos : 0 < ks.length := List.length_pos_iff.mpr h0
  obtain ⟨kvss, a1, a2, e⟩ := team_init (wf := wf) T.toH_Team___init__ k (Wl w []) (ks := ks) (cs := []) h1 (by omega) g0 g1 (by simpa using hk) (by simp; omega) (by simp; omega)
  have hat := TeamAt.made (s := Wl w []) (st := st) (start := start) a1 a2
  have hst : ∀ y : Sto, Wl w [] ++ y = Wl w y := fun y => rfl
  have hlen : (Wl w []).length = 1 := rfl
  simp only [hst, hlen] at hat e
  refine ⟨_, hat, ?_⟩
  simp only [List.map_nil] at e ⊢
  generalize Wl w (O.ins "Team" (teamF st start ((ks ++ []).map kD) ks.length (ks.map kD) [] ((List.range' (1 + 1) (ks ++ []).length).map .loc)) :: kvss.map (.dic true)) = S2 at *
  generalize ks.map kD = K at *
  have l0 : 0 ≤ LIM := by decide
  simp [e_var, e_int, e_bl, e_non, e_str, e_tyn, e_con, e_bin, e_neg, e_cmp, e_chain, e_and, e_or, e_not, e_ite, e_tup, e_lst, e_idx, e_slc, e_dnewT, e_dgetT, e_fz, e_attr, e_isi, e_sset, e_new, e_call, e_bi, e_heard2, e_app, e_me, es_nil, es_cons, ts_nil, ts_cons, eo_none, eo_some, ec_none, ec_some, i_seq, i_rng, i_zip, i_enum, s_asg, s_par2, s_asgLc, s_asgLcF, s_put, s_putT, s_sat, s_ite, s_ret, s_ret0, s_raise, s_expr, ss_nil, ss_cons, Fl.then, Fl.res, Fn.fill, cmpT, lwS, K08.f_law, nth, e, l0, hlen, hst, lwE]
theorem lw_s3 (T : HL tb) (k : Nat) (x : D) (s : Sto) {st start : Int} {ks : List Kd} (hl : ks.length ≤ 3) (n : Nat) : evS (run tb wf (k+1)) wf (lwS 3) (lwE x st start (.fro (ks.map kD)) n none none none none none) s =
    .nx (lwE x st start (.fro (ks.map kD)) n (some (sitD start (ks.map (·.begin)))) none none none none) s := by
  have e := law_opening (wf := wf) T.toH__law_opening k s (start := start) (ks := ks) (by omega)
  generalize sitD start (ks.map (·.begin)) = S at *
  generalize ks.map kD = K at *
  simp [e_var, e_int, e_bl, e_non, e_str, e_tyn, e_con, e_bin, e_neg, e_cmp, e_chain, e_and, e_or, e_not, e_ite, e_tup, e_lst, e_idx, e_slc, e_dnewT, e_dgetT, e_fz, e_attr, e_isi, e_sset, e_new, e_call, e_bi, e_heard2, e_app, e_me, es_nil, es_cons, ts_nil, ts_cons, eo_none, eo_some, ec_none, ec_some, i_seq, i_rng, i_zip, i_enum, s_asg, s_par2, s_asgLc, s_asgLcF, s_put, s_putT, s_sat, s_ite, s_ret, s_ret0, s_raise, s_expr, ss_nil, ss_cons, Fl.then, Fl.res, Fn.fill, cmpT, lwS, K08.f_law, nth, e, lwE]
theorem lw_s4 (T : HL tb) (k : Nat) (x : D) {s : Sto} {n : Nat} {st start : Int} {ks : List Kd} (h : TeamAt s n st start ks []) (hl : ks.length ≤ 3) (K : D) : evS (run tb wf (k+3)) wf (lwS 4) (lwE x st start K n (some (sitD start (ks.map (·.begin)))) none none none none) s =
    .nx (lwE x st start K n (some (sitD start (ks.map (·.begin)))) none none none none) s := by
  have e := opening (wf := wf) T.toH_opening (k+1) h (by omega)
  have e2 := like_sit (wf := wf) T.toH__law_like k s start (ks.map (·.begin)) (by simp; omega)
  generalize sitD start (ks.map (·.begin)) = S at *
  simp [e_var, e_int, e_bl, e_non, e_str, e_tyn, e_con, e_bin, e_neg, e_cmp, e_chain, e_and, e_or, e_not, e_ite, e_tup, e_lst, e_idx, e_slc, e_dnewT, e_dgetT, e_fz, e_attr, e_isi, e_sset, e_new, e_call, e_bi, e_heard2, e_app, e_me, es_nil, es_cons, ts_nil, ts_cons, eo_none, eo_some, ec_none, ec_some, i_seq, i_rng, i_zip, i_enum, s_asg, s_par2, s_asgLc, s_asgLcF, s_put, s_putT, s_sat, s_ite, s_ret, s_ret0, s_raise, s_expr, ss_nil, ss_cons, Fl.then, Fl.res, Fn.fill, cmpT, lwS, K08.f_law, nth, e, e2, lwE]
theorem lw_s5 (k : Nat) (x : D) (s : Sto) (n : Nat) (st start : Int) (K S : D) : evS (run tb wf k) wf (lwS 5) (lwE x st start K n (some S) none none none none) s =
    .nx (lwE x st start K n (some S) (some S) none none none) s := by simp [e_var, e_int, e_bl, e_non, e_str, e_tyn, e_con, e_bin, e_neg, e_cmp, e_chain, e_and, e_or, e_not, e_ite, e_tup, e_lst, e_idx, e_slc, e_dnewT, e_dgetT, e_fz, e_attr, e_isi, e_sset, e_new, e_call, e_bi, e_heard2, e_app, e_me, es_nil, es_cons, ts_nil, ts_cons, eo_none, eo_some, ec_none, ec_some, i_seq, i_rng, i_zip, i_enum, s_asg, s_par2, s_asgLc, s_asgLcF, s_put, s_putT, s_sat, s_ite, s_ret, s_ret0, s_raise, s_expr, ss_nil, ss_cons, Fl.then, Fl.res, Fn.fill, cmpT, lwS, K08.f_law, nth, lwE]
theorem lw_s6 (T : HL tb) (k : Nat) (x : D) {n : Nat} {st start : Int} (h1 : 1 ≤ st) (h3 : st ≤ 3) {ks : List Kd} (hk : ∀ kd ∈ ks, KOk st kd) (h0 : ks ≠ []) (hl : ks.length ≤ 3) {w : Int × Int × Int} {r : Sto} (o6 : Option D) (h : TeamAt (Wl w r) (n + 1) st start ks []) {z : Int} (hw : Ok z w) (hz : z + 240 ≤ 1000000000) {a : Int} {ls : List Int} (hs : SitOk st ks a ls) :
    ∃ (a' : Int) (ls' : List Int) (w' : Int × Int × Int) (q8 q9 : Option D), SitOk st ks a' ls' ∧ TeamAt (Wl w' r) (n + 1) st start ks [] ∧
      evS (run tb wf (k+7)) wf (lwS 6) (lwE x st start (.fro (ks.map kD)) (n + 1) o6 (some (sitD a ls)) none none none) (Wl w r) = .nx (lwE x st start (.fro (ks.map kD)) (n + 1) o6 (some (sitD a' ls')) q8 q9 none) (Wl w' r) := by
  have hrg := rangeD_ok (j := 6) (by decide) (by decide)
  obtain ⟨a', ls', w', q8, q9, hs', h', e⟩ := lw_loop (wf := wf) T k x h1 h3 hk h0 hl o6 none ((List.range (6 : Int).toNat).map fun i => D.int (0 + (i : Nat))) w z a ls none none h hw (by simp; omega) hs
  refine ⟨a', ls', w', q8, q9, hs', h', ?_⟩
  have hf := s_for (cf := run tb wf (k+7)) (wf := wf) (t := .nm 8) (it := .rng (.cons (.int 6) .nil)) (b := lwB) (ρ := lwE x st start (.fro (ks.map kD)) (n + 1) o6 (some (sitD a ls)) none none none) (s := Wl w r) (s' := Wl w r) (I := ⟨(List.range (6 : Int).toNat).map fun i => D.int (0 + (i : Nat)), []⟩) (by simp [e_var, e_int, e_bl, e_non, e_str, e_tyn, e_con, e_bin, e_neg, e_cmp, e_chain, e_and, e_or, e_not, e_ite, e_tup, e_lst, e_idx, e_slc, e_dnewT, e_dgetT, e_fz, e_attr, e_isi, e_sset, e_new, e_call, e_bi, e_heard2, e_app, e_me, es_nil, es_cons, ts_nil, ts_cons, eo_none, eo_some, ec_none, ec_some, i_seq, i_rng, i_zip, i_enum, s_asg, s_par2, s_asgLc, s_asgLcF, s_put, s_putT, s_sat, s_ite, s_ret, s_ret0, s_raise, s_expr, ss_nil, ss_cons, Fl.then, Fl.res, Fn.fill, cmpT, rangeOf, hrg])
  simp only at hf
  rw [e] at hf
  exact hf
theorem lw_s7 (T : HL tb) (k : Nat) (x : D) {s : Sto} {n : Nat} {st start : Int} {ks : List Kd} (h : TeamAt s n st start ks []) (h0 : ks ≠ []) (hl : ks.length ≤ 3) {a : Int} {ls : List Int} (hs : SitOk st ks a ls) (o6 o8 o9 : Option D) :
    evS (run tb wf (k+4)) wf (lwS 7) (lwE x st start (.fro (ks.map kD)) n o6 (some (sitD a ls)) o8 o9 none) s = .nx (lwE x st start (.fro (ks.map kD)) n o6 (some (sitD a ls)) o8 o9 none) s := by
  have hlen := hs.len
  have e1 := odd_theres (wf := wf) T.toH__law_odd_theres (k+3) s hl hs
  have hb := ots_bad hs h0
  have hlo : (ots a st ks ls).length ≤ 1000 := by
    have key : ∀ (L : List D) (ks' : List Kd) (ls' : List Int) (i : Nat), (otsF a L i ks' ls').length ≤ 5 * ks'.length := by
      intro L ks'
      induction ks' with
      | nil => intro ls' i; simp [otsF]
      | cons kd ks' ih =>
        intro ls' i
        cases ls' with
        | nil => simp [otsF]
        | cons l ls' =>
          have := ih ls' (i + 1)
          simp only [otsF, ots5, List.length_append, List.length_cons, List.length_nil]
          omega
    have := key (ls.map .int) ks ls 0
    simp only [ots, ots12, ots3, List.length_append, List.length_cons, List.length_nil]
    omega
  have hc : evE (run tb wf (k+4)) (.lc [("value", 12)] (.nm 12) (.seq (.call "_law_odd_theres" (.cons (.var 7) (.cons (.var 2) (.cons (.var 4) .nil))))) .none (.cmp .isnot (.call "is_situation" (.cons (.var 5) (.cons (.var 12) .nil))) (.bl false))) (lwE x st start (.fro (ks.map kD)) n o6 (some (sitD a ls)) o8 o9 none) s = .ok (.l ((ots a st ks ls).map fun _ => .bl false)) s := by
    rw [e_lc (I := ⟨ots a st ks ls, []⟩) (s' := s) (by simp [e_var, e_int, e_bl, e_non, e_str, e_tyn, e_con, e_bin, e_neg, e_cmp, e_chain, e_and, e_or, e_not, e_ite, e_tup, e_lst, e_idx, e_slc, e_dnewT, e_dgetT, e_fz, e_attr, e_isi, e_sset, e_new, e_call, e_bi, e_heard2, e_app, e_me, es_nil, es_cons, ts_nil, ts_cons, eo_none, eo_some, ec_none, ec_some, i_seq, i_rng, i_zip, i_enum, s_asg, s_par2, s_asgLc, s_asgLcF, s_put, s_putT, s_sat, s_ite, s_ret, s_ret0, s_raise, s_expr, ss_nil, ss_cons, Fl.then, Fl.res, Fn.fill, cmpT, lwE, e1])]
    have := lc_map (A := id) (G := fun _ => D.bl false) (s := s) (src := []) (F := lcF (.nm 12) [12] (lwE x st start (.fro (ks.map kD)) n o6 (some (sitD a ls)) o8 o9 none) (evC (run tb wf (k+4)) .none) (evE (run tb wf (k+4)) (.cmp .isnot (.call "is_situation" (.cons (.var 5) (.cons (.var 12) .nil))) (.bl false)))) rfl (ots a st ks ls) (fun d hd => by
      obtain ⟨b1, b2⟩ := hb d hd
      have e2 := is_situation (wf := wf) T.toH_is_situation k h (by omega) b1
      rw [b2] at e2
      generalize ks.map kD = K at *
      simp [e_var, e_int, e_bl, e_non, e_str, e_tyn, e_con, e_bin, e_neg, e_cmp, e_chain, e_and, e_or, e_not, e_ite, e_tup, e_lst, e_idx, e_slc, e_dnewT, e_dgetT, e_fz, e_attr, e_isi, e_sset, e_new, e_call, e_bi, e_heard2, e_app, e_me, es_nil, es_cons, ts_nil, ts_cons, eo_none, eo_some, ec_none, ec_some, i_seq, i_rng, i_zip, i_enum, s_asg, s_par2, s_asgLc, s_asgLcF, s_put, s_putT, s_sat, s_ite, s_ret, s_ret0, s_raise, s_expr, ss_nil, ss_cons, Fl.then, Fl.res, Fn.fill, cmpT, lcF, wipeE, lwE, e2]) (LIM_le (by omega))
    rw [List.map_id] at this
    exact this
  have hbs := bools_map (fun _ : D => false) (ots a st ks ls)
  have hany : ((ots a st ks ls).map fun _ => false).any id = false := by simp
  generalize ((ots a st ks ls).map fun _ => D.bl false) = X at *
  generalize ((ots a st ks ls).map fun _ => false) = Y at *
  generalize ks.map kD = K at *
  simp only [lwE] at hc
  simp [e_var, e_int, e_bl, e_non, e_str, e_tyn, e_con, e_bin, e_neg, e_cmp, e_chain, e_and, e_or, e_not, e_ite, e_tup, e_lst, e_idx, e_slc, e_dnewT, e_dgetT, e_fz, e_attr, e_isi, e_sset, e_new, e_call, e_bi, e_heard2, e_app, e_me, es_nil, es_cons, ts_nil, ts_cons, eo_none, eo_some, ec_none, ec_some, i_seq, i_rng, i_zip, i_enum, s_asg, s_par2, s_asgLc, s_asgLcF, s_put, s_putT, s_sat, s_ite, s_ret, s_ret0, s_raise, s_expr, ss_nil, ss_cons, Fl.then, Fl.res, Fn.fill, cmpT, lwS, K08.f_law, nth, lwE, hc, hbs, hany]
theorem lw_s8 (T : HL tb) (k : Nat) (x : D) (s : Sto) (n : Nat) {st start : Int} (h1 : 1 ≤ st) (h3 : st ≤ 3) (g0 : 0 ≤ start) (g1 : start < st) {ks : List Kd} (hk : ∀ kd ∈ ks, KOk st kd) (h0 : ks ≠ []) (hl : ks.length ≤ 3) (o6 o7 o8 o9 : Option D) :
    ∃ (c : Kd) (s' : Sto), TeamAt s' s.length st start ks [c] ∧ evS (run tb wf (k+5)) wf (lwS 8) (lwE x st start (.fro (ks.map kD)) n o6 o7 o8 o9 none) s =
      .nx (lwE x st start (.fro (ks.map kD)) n o6 o7 o8 o9 (some (.loc s.length))) s' := by
  obtain ⟨c, ks2, rfl⟩ := List.exists_cons_of_ne_nil h0
  obtain ⟨kvss, a1, a2, e⟩ := team_init (wf := wf) T.toH_Team___init__ k s (ks := c :: ks2) (cs := [c]) h1 (by omega) g0 g1 (fun kd hm => by
    rcases List.mem_append.mp hm with hm | hm
    · exact hk kd hm
    · exact hk kd (by simp at hm; simp [hm])) (by simp) (by simp at hl ⊢; omega)
  have hat := TeamAt.made (s := s) (st := st) (start := start) a1 a2
  refine ⟨c, _, hat, ?_⟩
  have hix : L2.atI ((c :: ks2).map kD) 0 = some (kD c) := by simp
  simp only [List.map_cons (l := []), List.map_nil] at e ⊢
  generalize s ++ O.ins "Team" _ :: kvss.map (.dic true) = S2 at *
  generalize (c :: ks2).map kD = K at *
  generalize kD c = C at *
  have l1 : 1 ≤ LIM := by decide
  simp [e_var, e_int, e_bl, e_non, e_str, e_tyn, e_con, e_bin, e_neg, e_cmp, e_chain, e_and, e_or, e_not, e_ite, e_tup, e_lst, e_idx, e_slc, e_dnewT, e_dgetT, e_fz, e_attr, e_isi, e_sset, e_new, e_call, e_bi, e_heard2, e_app, e_me, es_nil, es_cons, ts_nil, ts_cons, eo_none, eo_some, ec_none, ec_some, i_seq, i_rng, i_zip, i_enum, s_asg, s_par2, s_asgLc, s_asgLcF, s_put, s_putT, s_sat, s_ite, s_ret, s_ret0, s_raise, s_expr, ss_nil, ss_cons, Fl.then, Fl.res, Fn.fill, cmpT, lwS, K08.f_law, nth, e, l1, hix, lwE]
theorem lw_wk (T : HL tb) (k : Nat) (x : D) {s : Sto} {m : Nat} {st start : Int} {ks : List Kd} {c : Kd} (h : TeamAt s m st start ks [c]) (K : D) (n : Nat) (S : D) (o6 o8 o9 : Option D) :
    evSs (run tb wf (k+3)) wf wkT (lwE x st start K n o6 (some S) o8 o9 (some (.loc m))) s = .rt (.v (.bl true)) s := by
  have e1 := opening_no (wf := wf) T.toH_opening (k+1) h
  have e2 := is_situation_no (wf := wf) T.toH_is_situation (k+1) h .non
  have e3 := moves_at_no (wf := wf) T.toH__law_moves_told.toH_moves_at (k+1) h S
  have e4 := is_stuck_no (wf := wf) T.toH__law_moves_told.toH_is_stuck k h S
  have e5 := is_move_at_no (wf := wf) T.toH__law_moves_told.toH_is_move_at (k+1) h S (.tup [])
  have e6 := gone_cr (wf := wf) T.toH__law_moves_told.toH_gone k h S .non
  have hw : wkT = .wk "_law_heard" "Refused" "crowds" 11 13 (.cons (.call "opening" (.cons (.var 10) .nil)) (.cons (.call "is_situation" (.cons (.var 10) (.cons .non .nil))) (.cons (.call "moves_at" (.cons (.var 10) (.cons (.var 7) .nil))) (.cons (.call "is_stuck" (.cons (.var 10) (.cons (.var 7) .nil))) (.cons (.call "is_move_at" (.cons (.var 10) (.cons (.var 7) (.cons (.tup .nil) .nil)))) (.cons (.call "gone" (.cons (.var 10) (.cons (.var 7) (.cons .non .nil)))) .nil)))))) := rfl
  have l0 : 0 ≤ LIM := by decide
  rw [hw, evSs]
  simp [e_var, e_int, e_bl, e_non, e_str, e_tyn, e_con, e_bin, e_neg, e_cmp, e_chain, e_and, e_or, e_not, e_ite, e_tup, e_lst, e_idx, e_slc, e_dnewT, e_dgetT, e_fz, e_attr, e_isi, e_sset, e_new, e_call, e_bi, e_heard2, e_app, e_me, es_nil, es_cons, ts_nil, ts_cons, eo_none, eo_some, ec_none, ec_some, i_seq, i_rng, i_zip, i_enum, s_asg, s_par2, s_asgLc, s_asgLcF, s_put, s_putT, s_sat, s_ite, s_ret, s_ret0, s_raise, s_expr, ss_nil, ss_cons, Fl.then, Fl.res, Fn.fill, cmpT, esL, wkF, heard2F, lwE, e1, e2, e3, e4, e5, e6, l0, Fl.then, R.fl]
theorem law_true (T : HL tb) (k : Nat) (ns : List Int) : ∃ s, run tb wf (k+8) "law" [.fro (ns.map .int)] [] = .ok (.v (.bl true)) s := by
  obtain ⟨w, o, e0⟩ := lw_s0 (wf := wf) T (k+6) ns
  obtain ⟨st, start, ks, w1, ⟨h1, h3⟩, ⟨g0, g1⟩, h0, hl, hk, o1, e1⟩ := lw_s1 (wf := wf) T (k+3) (.fro (ns.map .int)) o
  obtain ⟨r, ht, e2⟩ := lw_s2 (wf := wf) T (k+2) (.fro (ns.map .int)) w1 h1 h3 g0 g1 hk h0 hl
  have e3 := lw_s3 (wf := wf) T (k+6) (.fro (ns.map .int)) (Wl w1 r) (st := st) (start := start) hl 1
  have e4 := lw_s4 (wf := wf) T (k+4) (.fro (ns.map .int)) ht hl (.fro (ks.map kD))
  have e5 := lw_s5 (tb := tb) (wf := wf) (k+7) (.fro (ns.map .int)) (Wl w1 r) 1 st start (.fro (ks.map kD)) (sitD start (ks.map (·.begin)))
  have hs0 : SitOk st ks start (ks.map (·.begin)) := ⟨g0, g1, by simp, fun i kd l a1 a2 => by
    rw [List.getElem?_map, a1] at a2
    simp at a2
    have := hk kd (List.mem_of_getElem? a1)
    exact ⟨a2 ▸ this.b0, a2 ▸ this.b1⟩⟩
  obtain ⟨a, ls, w2, q8, q9, hs, ht2, e6⟩ := lw_s6 (wf := wf) T k (.fro (ns.map .int)) (n := 0) h1 h3 hk h0 hl (some (sitD start (ks.map (·.begin)))) ht o1 (by decide) hs0
  have e7 := lw_s7 (wf := wf) T (k+3) (.fro (ns.map .int)) ht2 h0 hl hs (some (sitD start (ks.map (·.begin)))) q8 q9
  obtain ⟨c, s', htc, e8⟩ := lw_s8 (wf := wf) T (k+2) (.fro (ns.map .int)) (Wl w2 r) 1 h1 h3 g0 g1 hk h0 hl (some (sitD start (ks.map (·.begin)))) (some (sitD a ls)) q8 q9
  have e9 := lw_wk (wf := wf) T (k+4) (.fro (ns.map .int)) htc (.fro (ks.map kD)) 1 (sitD a ls) (some (sitD start (ks.map (·.begin)))) q8 q9
  have hf := (Kp.app [] s').n (d := .bl true) rfl
  rw [List.nil_append] at hf
  simp only [Nat.zero_add] at e6 e7
  refine ⟨[], ?_⟩
  rw [run, T.law]
  show Fl.res [] (evSs (run tb wf (k+7)) wf K08.f_law.body [some (.fro (ns.map .int)), none, none, none, none, none, none, none, none, none, none, none, none, none] []) = _
  rw [lw_body]
  simp only [ss_cons, e0, e1, e2, e3, e4, e5, e6, e7, e8, e9, Fl.then, Fl.res, hf]
end
end Fam
end
section
set_option Elab.async false
set_option linter.all false
set_option maxRecDepth 100000
/-! K08M: the law answers True at every script. -/
namespace K08
open Fy
theorem fm_is_integer : tbl "is_integer" = some Fam.f_is_integer := tbl_is_integer
theorem fm_is_number : tbl "is_number" = some Fam.f_is_number := tbl_is_number
theorem fm_is_size : tbl "is_size" = some Fam.f_is_size := tbl_is_size
theorem fm_is_sequence : tbl "is_sequence" = some Fam.f_is_sequence := tbl_is_sequence
theorem fm_is_row : tbl "is_row" = some Fam.f_is_row := tbl_is_row
theorem fm_checked_kind : tbl "checked_kind" = some Fam.f_checked_kind := tbl_checked_kind
theorem fm_steps_from : tbl "steps_from" = some Fam.f_steps_from := tbl_steps_from
theorem fm_Team___init__ : tbl "Team.__init__" = some Fam.f_Team___init__ := tbl_Team___init__
theorem fm_moves_from : tbl "moves_from" = some Fam.f_moves_from := tbl_moves_from
theorem fm_is_step : tbl "is_step" = some Fam.f_is_step := tbl_is_step
theorem fm_need_singles : tbl "need_singles" = some Fam.f_need_singles := tbl_need_singles
theorem fm_opening : tbl "opening" = some Fam.f_opening := tbl_opening
theorem fm_is_situation : tbl "is_situation" = some Fam.f_is_situation := tbl_is_situation
theorem fm_is_rest : tbl "is_rest" = some Fam.f_is_rest := tbl_is_rest
theorem fm_moves_at : tbl "moves_at" = some Fam.f_moves_at := tbl_moves_at
theorem fm_is_move_at : tbl "is_move_at" = some Fam.f_is_move_at := tbl_is_move_at
theorem fm_led : tbl "led" = some Fam.f_led := tbl_led
theorem fm_gone : tbl "gone" = some Fam.f_gone := tbl_gone
theorem fm_is_stuck : tbl "is_stuck" = some Fam.f_is_stuck := tbl_is_stuck
theorem fm__law_well : tbl "_law_well" = some Fam.f__law_well := tbl__law_well
theorem fm__law_dip : tbl "_law_dip" = some Fam.f__law_dip := tbl__law_dip
theorem fm__law_one : tbl "_law_one" = some Fam.f__law_one := tbl__law_one
theorem fm__law_like : tbl "_law_like" = some Fam.f__law_like := tbl__law_like
theorem fm__law_kind : tbl "_law_kind" = some Fam.f__law_kind := tbl__law_kind
theorem fm__law_team : tbl "_law_team" = some Fam.f__law_team := tbl__law_team
theorem fm__law_opening : tbl "_law_opening" = some Fam.f__law_opening := tbl__law_opening
theorem fm__law_moves : tbl "_law_moves" = some Fam.f__law_moves := tbl__law_moves
theorem fm__law_led : tbl "_law_led" = some Fam.f__law_led := tbl__law_led
theorem fm__law_any_there : tbl "_law_any_there" = some Fam.f__law_any_there := tbl__law_any_there
theorem fm__law_moves_told : tbl "_law_moves_told" = some Fam.f__law_moves_told := tbl__law_moves_told
theorem fm__law_odd_theres : tbl "_law_odd_theres" = some Fam.f__law_odd_theres := tbl__law_odd_theres
theorem hl : Fam.HL tbl := { is_integer := fm_is_integer, is_number := fm_is_number, is_size := fm_is_size, is_sequence := fm_is_sequence, is_row := fm_is_row, checked_kind := fm_checked_kind, steps_from := fm_steps_from, Team___init__ := fm_Team___init__, moves_from := fm_moves_from, is_step := fm_is_step, need_singles := fm_need_singles, opening := fm_opening, is_situation := fm_is_situation, is_rest := fm_is_rest, moves_at := fm_moves_at, is_move_at := fm_is_move_at, led := fm_led, gone := fm_gone, is_stuck := fm_is_stuck, _law_well := fm__law_well, _law_dip := fm__law_dip, _law_one := fm__law_one, _law_like := fm__law_like, _law_kind := fm__law_kind, _law_team := fm__law_team, _law_opening := fm__law_opening, _law_moves := fm__law_moves, _law_led := fm__law_led, _law_any_there := fm__law_any_there, _law_moves_told := fm__law_moves_told, _law_odd_theres := fm__law_odd_theres, law := tbl_law }
theorem fin : ∀ ns : List Int, ns.length ≤ 63 → ∃ s, run tbl 1000 16 "law" [.fro (ns.map .int)] [] = .ok (.v (.bl true)) s := fun ns _ => Fam.law_true (wf := 1000) hl 8 ns
end K08
end
section
set_option Elab.async false
set_option linter.all false
set_option maxRecDepth 100000
set_option maxHeartbeats 0
namespace K08
open PySem L2 Fy
theorem all_mk {P : Program} {w : World} {K : PySem.W.Frag} {h : Heap} {mg : Str → Option Value} {fa : Addr} (X : K.In h) (G : h.Ns mainGlobals mg) (hfa : mg "law" = some (.ref fa))
    {f0 f1 f2 f3 f4 f5 f6 f7 f8 f9 f10 f11 f12 f13 f14 f15 f16 f17 f18 f19 f20 f21 f22 f23 f24 f25 f26 f27 f28 f29 f30 f31 f32 : Addr}
    {od0 an0 od1 an1 od2 an2 od3 an3 od4 an4 od5 an5 od6 an6 od7 an7 od8 an8 od9 an9 od10 an10 od11 an11 od12 an12 od13 an13 od14 an14 od15 an15 od16 an16 od17 an17 od18 an18 od19 an19 od20 an20 od21 an21 od22 an22 od23 an23 od24 an24 od25 an25 od26 an26 od27 an27 od28 an28 od29 an29 od30 an30 od31 an31 od32 an32 : Option Addr}
    {sl0 sl1 sl2 sl3 sl4 sl5 sl6 sl7 sl8 sl9 sl10 sl11 sl12 sl13 sl14 sl15 sl16 sl17 sl18 sl19 sl20 sl21 sl22 sl23 sl24 sl25 sl26 sl27 sl28 sl29 sl30 sl31 sl32 : Array (Option Value)}
    {oc0 kV0 dc0 pm0 ct0 oc1 kV1 dc1 pm1 ct1 oc2 kV2 dc2 pm2 ct2 oc3 kV3 dc3 pm3 ct3 oc4 kV4 dc4 pm4 ct4 oc5 kV5 dc5 pm5 ct5 oc6 kV6 dc6 pm6 ct6 oc7 kV7 dc7 pm7 ct7 oc8 kV8 dc8 pm8 ct8 oc9 kV9 dc9 pm9 ct9 oc10 kV10 dc10 pm10 ct10 oc11 kV11 dc11 pm11 ct11 oc12 kV12 dc12 pm12 ct12 oc13 kV13 dc13 pm13 ct13 oc14 kV14 dc14 pm14 ct14 oc15 kV15 dc15 pm15 ct15 oc16 kV16 dc16 pm16 ct16 oc17 kV17 dc17 pm17 ct17 oc18 kV18 dc18 pm18 ct18 oc19 kV19 dc19 pm19 ct19 oc20 kV20 dc20 pm20 ct20 oc21 kV21 dc21 pm21 ct21 oc22 kV22 dc22 pm22 ct22 oc23 kV23 dc23 pm23 ct23 oc24 kV24 dc24 pm24 ct24 oc25 kV25 dc25 pm25 ct25 oc26 kV26 dc26 pm26 ct26 oc27 kV27 dc27 pm27 ct27 oc28 kV28 dc28 pm28 ct28 oc29 kV29 dc29 pm29 ct29 oc30 kV30 dc30 pm30 ct30 oc31 kV31 dc31 pm31 ct31 oc32 kV32 dc32 pm32 ct32 : Value}
    {cd0 cd1 cd2 cd3 cd4 cd5 cd6 cd7 cd8 cd9 cd10 cd11 cd12 cd13 cd14 cd15 cd16 cd17 cd18 cd19 cd20 cd21 cd22 cd23 cd24 cd25 cd26 cd27 cd28 cd29 cd31 : Value}
    {cA30 pA30 : Addr}
    {cA32 pA32 : Addr}
    {dA1 : Addr}
    {dO1 : Option Addr}
    {dS1 : Array (Option Value)}
    {dC1 : Value}
    {dN1 : Nat}
    {dI1 : Array Value}
    {cC7 : Addr}
    {q0t : Tok}
    {q1t : Tok}
    {q2t : Tok}
    {q3t : Tok}
    {q4A : Addr}
    {q4O : Option Addr}
    {q4S : Array (Option Value)}
    {q4N : Nat}
    {x0C x0fI x0cc x0cda : Addr}
    {x0ocl x0kV x0doc x0pm x0ct x0oc x0ccl : Value}
    {x0an x0od x0cld x0cdd : Option Addr}
    {x0sl x0csl x0ccs : Array (Option Value)}
    {x0vs : Array Value}
    {x0file :  Str}
    {x0tf : Tok}
    {x0qual : Str}
    {x1C x1fI x1cc x1cda : Addr}
    {x1ocl x1kV x1doc x1pm x1ct x1oc x1ccl : Value}
    {x1an x1od x1cld x1cdd : Option Addr}
    {x1sl x1csl x1ccs : Array (Option Value)}
    {x1vs : Array Value}
    {x1file :  Str}
    {x1tf : Tok}
    {x1qual : Str}
    {x1FC : Addr}
    (a0 : PySem.W.nsIn K mainGlobals "is_integer" = some (some (.ref f0)))
    (l0 : K.lookup f0 = some ⟨oc0, od0, .func (PySem.W.fnOf "is_integer" "is_integer" (defArgs st_is_integer) (defBody st_is_integer) (defScope st_is_integer) .none kV0 dc0 pm0 an0 cd0 ct0), sl0⟩)
    (c0 : PySem.W.codeIn K cd0 "is_integer" = true)
    (k0 : PySem.W.keepIn K (.ref f0) = true)
    (a1 : PySem.W.nsIn K mainGlobals "is_number" = some (some (.ref f1)))
    (l1 : K.lookup f1 = some ⟨oc1, od1, .func (PySem.W.fnOf "is_number" "is_number" (defArgs st_is_number) (defBody st_is_number) (defScope st_is_number) (.ref dA1) kV1 dc1 pm1 an1 cd1 ct1), sl1⟩)
    (c1 : PySem.W.codeIn K cd1 "is_number" = true)
    (k1 : PySem.W.keepIn K (.ref f1) = true)
    (d1 : K.lookup dA1 = some ⟨dC1, dO1, .seq dI1 dN1, dS1⟩)
    (e1 : dI1 = #[.none])
    (a2 : PySem.W.nsIn K mainGlobals "is_size" = some (some (.ref f2)))
    (l2 : K.lookup f2 = some ⟨oc2, od2, .func (PySem.W.fnOf "is_size" "is_size" (defArgs st_is_size) (defBody st_is_size) (defScope st_is_size) .none kV2 dc2 pm2 an2 cd2 ct2), sl2⟩)
    (c2 : PySem.W.codeIn K cd2 "is_size" = true)
    (k2 : PySem.W.keepIn K (.ref f2) = true)
    (a3 : PySem.W.nsIn K mainGlobals "is_sequence" = some (some (.ref f3)))
    (l3 : K.lookup f3 = some ⟨oc3, od3, .func (PySem.W.fnOf "is_sequence" "is_sequence" (defArgs st_is_sequence) (defBody st_is_sequence) (defScope st_is_sequence) .none kV3 dc3 pm3 an3 cd3 ct3), sl3⟩)
    (c3 : PySem.W.codeIn K cd3 "is_sequence" = true)
    (k3 : PySem.W.keepIn K (.ref f3) = true)
    (a4 : PySem.W.nsIn K mainGlobals "is_row" = some (some (.ref f4)))
    (l4 : K.lookup f4 = some ⟨oc4, od4, .func (PySem.W.fnOf "is_row" "is_row" (defArgs st_is_row) (defBody st_is_row) (defScope st_is_row) .none kV4 dc4 pm4 an4 cd4 ct4), sl4⟩)
    (c4 : PySem.W.codeIn K cd4 "is_row" = true)
    (k4 : PySem.W.keepIn K (.ref f4) = true)
    (a5 : PySem.W.nsIn K mainGlobals "checked_kind" = some (some (.ref f5)))
    (l5 : K.lookup f5 = some ⟨oc5, od5, .func (PySem.W.fnOf "checked_kind" "checked_kind" (defArgs st_checked_kind) (defBody st_checked_kind) (defScope st_checked_kind) .none kV5 dc5 pm5 an5 cd5 ct5), sl5⟩)
    (c5 : PySem.W.codeIn K cd5 "checked_kind" = true)
    (k5 : PySem.W.keepIn K (.ref f5) = true)
    (a6 : PySem.W.nsIn K mainGlobals "steps_from" = some (some (.ref f6)))
    (l6 : K.lookup f6 = some ⟨oc6, od6, .func (PySem.W.fnOf "steps_from" "steps_from" (defArgs st_steps_from) (defBody st_steps_from) (defScope st_steps_from) .none kV6 dc6 pm6 an6 cd6 ct6), sl6⟩)
    (c6 : PySem.W.codeIn K cd6 "steps_from" = true)
    (k6 : PySem.W.keepIn K (.ref f6) = true)
    (a7 : PySem.W.nsIn K mainGlobals "Team" = some (some (.ref cC7)))
    (mk7 : PySem.W.makesIn K cC7 = true)
    (mi7 : PySem.W.findIn K (.ref cC7) "__init__" = some (some (.ref f7)))
    (mf7 : PySem.W.isFn K (.ref f7) = true)
    (mq7 : PySem.W.keepIn K (.ref cC7) = true)
    (mg7 : PySem.W.plainGet K cC7 Str.empty = true)
    (mh7 : PySem.W.hasDictIn K cC7 = true)
    (mo7 : PySem.W.plainOver K cC7 = true)
    (ms7 : PySem.W.findIn K (.ref cC7) "__setattr__" = some (some (.builtin "object.__setattr__")))
    (mn7_0 : PySem.W.findIn K (.ref cC7) "alone" = some none)
    (mn7_1 : PySem.W.findIn K (.ref cC7) "crowds" = some none)
    (mn7_2 : PySem.W.findIn K (.ref cC7) "froms" = some none)
    (mn7_3 : PySem.W.findIn K (.ref cC7) "kinds" = some none)
    (mn7_4 : PySem.W.findIn K (.ref cC7) "singles" = some none)
    (mn7_5 : PySem.W.findIn K (.ref cC7) "start" = some none)
    (mn7_6 : PySem.W.findIn K (.ref cC7) "states" = some none)
    (l7 : K.lookup f7 = some ⟨oc7, od7, .func (PySem.W.fnOf "__init__" "Team.__init__" (defArgs st_Team___init__) (defBody st_Team___init__) (defScope st_Team___init__) .none kV7 dc7 pm7 an7 cd7 ct7), sl7⟩)
    (c7 : PySem.W.codeIn K cd7 "Team.__init__" = true)
    (k7 : PySem.W.keepIn K (.ref f7) = true)
    (a8 : PySem.W.nsIn K mainGlobals "moves_from" = some (some (.ref f8)))
    (l8 : K.lookup f8 = some ⟨oc8, od8, .func (PySem.W.fnOf "moves_from" "moves_from" (defArgs st_moves_from) (defBody st_moves_from) (defScope st_moves_from) .none kV8 dc8 pm8 an8 cd8 ct8), sl8⟩)
    (c8 : PySem.W.codeIn K cd8 "moves_from" = true)
    (k8 : PySem.W.keepIn K (.ref f8) = true)
    (a9 : PySem.W.nsIn K mainGlobals "is_step" = some (some (.ref f9)))
    (l9 : K.lookup f9 = some ⟨oc9, od9, .func (PySem.W.fnOf "is_step" "is_step" (defArgs st_is_step) (defBody st_is_step) (defScope st_is_step) .none kV9 dc9 pm9 an9 cd9 ct9), sl9⟩)
    (c9 : PySem.W.codeIn K cd9 "is_step" = true)
    (k9 : PySem.W.keepIn K (.ref f9) = true)
    (a10 : PySem.W.nsIn K mainGlobals "need_singles" = some (some (.ref f10)))
    (l10 : K.lookup f10 = some ⟨oc10, od10, .func (PySem.W.fnOf "need_singles" "need_singles" (defArgs st_need_singles) (defBody st_need_singles) (defScope st_need_singles) .none kV10 dc10 pm10 an10 cd10 ct10), sl10⟩)
    (c10 : PySem.W.codeIn K cd10 "need_singles" = true)
    (k10 : PySem.W.keepIn K (.ref f10) = true)
    (a11 : PySem.W.nsIn K mainGlobals "opening" = some (some (.ref f11)))
    (l11 : K.lookup f11 = some ⟨oc11, od11, .func (PySem.W.fnOf "opening" "opening" (defArgs st_opening) (defBody st_opening) (defScope st_opening) .none kV11 dc11 pm11 an11 cd11 ct11), sl11⟩)
    (c11 : PySem.W.codeIn K cd11 "opening" = true)
    (k11 : PySem.W.keepIn K (.ref f11) = true)
    (a12 : PySem.W.nsIn K mainGlobals "is_situation" = some (some (.ref f12)))
    (l12 : K.lookup f12 = some ⟨oc12, od12, .func (PySem.W.fnOf "is_situation" "is_situation" (defArgs st_is_situation) (defBody st_is_situation) (defScope st_is_situation) .none kV12 dc12 pm12 an12 cd12 ct12), sl12⟩)
    (c12 : PySem.W.codeIn K cd12 "is_situation" = true)
    (k12 : PySem.W.keepIn K (.ref f12) = true)
    (a13 : PySem.W.nsIn K mainGlobals "is_rest" = some (some (.ref f13)))
    (l13 : K.lookup f13 = some ⟨oc13, od13, .func (PySem.W.fnOf "is_rest" "is_rest" (defArgs st_is_rest) (defBody st_is_rest) (defScope st_is_rest) .none kV13 dc13 pm13 an13 cd13 ct13), sl13⟩)
    (c13 : PySem.W.codeIn K cd13 "is_rest" = true)
    (k13 : PySem.W.keepIn K (.ref f13) = true)
    (a14 : PySem.W.nsIn K mainGlobals "moves_at" = some (some (.ref f14)))
    (l14 : K.lookup f14 = some ⟨oc14, od14, .func (PySem.W.fnOf "moves_at" "moves_at" (defArgs st_moves_at) (defBody st_moves_at) (defScope st_moves_at) .none kV14 dc14 pm14 an14 cd14 ct14), sl14⟩)
    (c14 : PySem.W.codeIn K cd14 "moves_at" = true)
    (k14 : PySem.W.keepIn K (.ref f14) = true)
    (a15 : PySem.W.nsIn K mainGlobals "is_move_at" = some (some (.ref f15)))
    (l15 : K.lookup f15 = some ⟨oc15, od15, .func (PySem.W.fnOf "is_move_at" "is_move_at" (defArgs st_is_move_at) (defBody st_is_move_at) (defScope st_is_move_at) .none kV15 dc15 pm15 an15 cd15 ct15), sl15⟩)
    (c15 : PySem.W.codeIn K cd15 "is_move_at" = true)
    (k15 : PySem.W.keepIn K (.ref f15) = true)
    (a16 : PySem.W.nsIn K mainGlobals "led" = some (some (.ref f16)))
    (l16 : K.lookup f16 = some ⟨oc16, od16, .func (PySem.W.fnOf "led" "led" (defArgs st_led) (defBody st_led) (defScope st_led) .none kV16 dc16 pm16 an16 cd16 ct16), sl16⟩)
    (c16 : PySem.W.codeIn K cd16 "led" = true)
    (k16 : PySem.W.keepIn K (.ref f16) = true)
    (a17 : PySem.W.nsIn K mainGlobals "gone" = some (some (.ref f17)))
    (l17 : K.lookup f17 = some ⟨oc17, od17, .func (PySem.W.fnOf "gone" "gone" (defArgs st_gone) (defBody st_gone) (defScope st_gone) .none kV17 dc17 pm17 an17 cd17 ct17), sl17⟩)
    (c17 : PySem.W.codeIn K cd17 "gone" = true)
    (k17 : PySem.W.keepIn K (.ref f17) = true)
    (a18 : PySem.W.nsIn K mainGlobals "is_stuck" = some (some (.ref f18)))
    (l18 : K.lookup f18 = some ⟨oc18, od18, .func (PySem.W.fnOf "is_stuck" "is_stuck" (defArgs st_is_stuck) (defBody st_is_stuck) (defScope st_is_stuck) .none kV18 dc18 pm18 an18 cd18 ct18), sl18⟩)
    (c18 : PySem.W.codeIn K cd18 "is_stuck" = true)
    (k18 : PySem.W.keepIn K (.ref f18) = true)
    (a19 : PySem.W.nsIn K mainGlobals "_law_well" = some (some (.ref f19)))
    (l19 : K.lookup f19 = some ⟨oc19, od19, .func (PySem.W.fnOf "_law_well" "_law_well" (defArgs st__law_well) (defBody st__law_well) (defScope st__law_well) .none kV19 dc19 pm19 an19 cd19 ct19), sl19⟩)
    (c19 : PySem.W.codeIn K cd19 "_law_well" = true)
    (k19 : PySem.W.keepIn K (.ref f19) = true)
    (a20 : PySem.W.nsIn K mainGlobals "_law_dip" = some (some (.ref f20)))
    (l20 : K.lookup f20 = some ⟨oc20, od20, .func (PySem.W.fnOf "_law_dip" "_law_dip" (defArgs st__law_dip) (defBody st__law_dip) (defScope st__law_dip) .none kV20 dc20 pm20 an20 cd20 ct20), sl20⟩)
    (c20 : PySem.W.codeIn K cd20 "_law_dip" = true)
    (k20 : PySem.W.keepIn K (.ref f20) = true)
    (a21 : PySem.W.nsIn K mainGlobals "_law_one" = some (some (.ref f21)))
    (l21 : K.lookup f21 = some ⟨oc21, od21, .func (PySem.W.fnOf "_law_one" "_law_one" (defArgs st__law_one) (defBody st__law_one) (defScope st__law_one) .none kV21 dc21 pm21 an21 cd21 ct21), sl21⟩)
    (c21 : PySem.W.codeIn K cd21 "_law_one" = true)
    (k21 : PySem.W.keepIn K (.ref f21) = true)
    (a22 : PySem.W.nsIn K mainGlobals "_law_like" = some (some (.ref f22)))
    (l22 : K.lookup f22 = some ⟨oc22, od22, .func (PySem.W.fnOf "_law_like" "_law_like" (defArgs st__law_like) (defBody st__law_like) (defScope st__law_like) .none kV22 dc22 pm22 an22 cd22 ct22), sl22⟩)
    (c22 : PySem.W.codeIn K cd22 "_law_like" = true)
    (k22 : PySem.W.keepIn K (.ref f22) = true)
    (a23 : PySem.W.nsIn K mainGlobals "_law_heard" = some (some (.ref f23)))
    (l23 : K.lookup f23 = some ⟨oc23, od23, .func (PySem.W.fnOf "_law_heard" "_law_heard" (defArgs st__law_heard) (defBody st__law_heard) (defScope st__law_heard) .none kV23 dc23 pm23 an23 cd23 ct23), sl23⟩)
    (c23 : PySem.W.codeIn K cd23 "_law_heard" = true)
    (k23 : PySem.W.keepIn K (.ref f23) = true)
    (a24 : PySem.W.nsIn K mainGlobals "_law_kind" = some (some (.ref f24)))
    (l24 : K.lookup f24 = some ⟨oc24, od24, .func (PySem.W.fnOf "_law_kind" "_law_kind" (defArgs st__law_kind) (defBody st__law_kind) (defScope st__law_kind) .none kV24 dc24 pm24 an24 cd24 ct24), sl24⟩)
    (c24 : PySem.W.codeIn K cd24 "_law_kind" = true)
    (k24 : PySem.W.keepIn K (.ref f24) = true)
    (a25 : PySem.W.nsIn K mainGlobals "_law_team" = some (some (.ref f25)))
    (l25 : K.lookup f25 = some ⟨oc25, od25, .func (PySem.W.fnOf "_law_team" "_law_team" (defArgs st__law_team) (defBody st__law_team) (defScope st__law_team) .none kV25 dc25 pm25 an25 cd25 ct25), sl25⟩)
    (c25 : PySem.W.codeIn K cd25 "_law_team" = true)
    (k25 : PySem.W.keepIn K (.ref f25) = true)
    (a26 : PySem.W.nsIn K mainGlobals "_law_opening" = some (some (.ref f26)))
    (l26 : K.lookup f26 = some ⟨oc26, od26, .func (PySem.W.fnOf "_law_opening" "_law_opening" (defArgs st__law_opening) (defBody st__law_opening) (defScope st__law_opening) .none kV26 dc26 pm26 an26 cd26 ct26), sl26⟩)
    (c26 : PySem.W.codeIn K cd26 "_law_opening" = true)
    (k26 : PySem.W.keepIn K (.ref f26) = true)
    (a27 : PySem.W.nsIn K mainGlobals "_law_moves" = some (some (.ref f27)))
    (l27 : K.lookup f27 = some ⟨oc27, od27, .func (PySem.W.fnOf "_law_moves" "_law_moves" (defArgs st__law_moves) (defBody st__law_moves) (defScope st__law_moves) .none kV27 dc27 pm27 an27 cd27 ct27), sl27⟩)
    (c27 : PySem.W.codeIn K cd27 "_law_moves" = true)
    (k27 : PySem.W.keepIn K (.ref f27) = true)
    (a28 : PySem.W.nsIn K mainGlobals "_law_led" = some (some (.ref f28)))
    (l28 : K.lookup f28 = some ⟨oc28, od28, .func (PySem.W.fnOf "_law_led" "_law_led" (defArgs st__law_led) (defBody st__law_led) (defScope st__law_led) .none kV28 dc28 pm28 an28 cd28 ct28), sl28⟩)
    (c28 : PySem.W.codeIn K cd28 "_law_led" = true)
    (k28 : PySem.W.keepIn K (.ref f28) = true)
    (a29 : PySem.W.nsIn K mainGlobals "_law_any_there" = some (some (.ref f29)))
    (l29 : K.lookup f29 = some ⟨oc29, od29, .func (PySem.W.fnOf "_law_any_there" "_law_any_there" (defArgs st__law_any_there) (defBody st__law_any_there) (defScope st__law_any_there) .none kV29 dc29 pm29 an29 cd29 ct29), sl29⟩)
    (c29 : PySem.W.codeIn K cd29 "_law_any_there" = true)
    (k29 : PySem.W.keepIn K (.ref f29) = true)
    (a30 : PySem.W.nsIn K mainGlobals "_law_moves_told" = some (some (.ref f30)))
    (l30 : K.lookup f30 = some ⟨oc30, od30, .func (PySem.W.fnOf "_law_moves_told" "_law_moves_told" (defArgs st__law_moves_told) (defBody st__law_moves_told) (defScope st__law_moves_told) .none kV30 dc30 pm30 an30 (.ref cA30) ct30), sl30⟩)
    (c30 : PySem.W.codeIn K (.ref cA30) "_law_moves_told" = true)
    (k30 : PySem.W.keepIn K (.ref f30) = true)
    (t30 : PySem.W.codeHdIn K cA30 pA30 = true)
    (u30 : K.lookup pA30 = none)
    (a31 : PySem.W.nsIn K mainGlobals "_law_odd_theres" = some (some (.ref f31)))
    (l31 : K.lookup f31 = some ⟨oc31, od31, .func (PySem.W.fnOf "_law_odd_theres" "_law_odd_theres" (defArgs st__law_odd_theres) (defBody st__law_odd_theres) (defScope st__law_odd_theres) .none kV31 dc31 pm31 an31 cd31 ct31), sl31⟩)
    (c31 : PySem.W.codeIn K cd31 "_law_odd_theres" = true)
    (k31 : PySem.W.keepIn K (.ref f31) = true)
    (a32 : PySem.W.nsIn K mainGlobals "law" = some (some (.ref f32)))
    (l32 : K.lookup f32 = some ⟨oc32, od32, .func (PySem.W.fnOf "law" "law" (defArgs st_law) (defBody st_law) (defScope st_law) .none kV32 dc32 pm32 an32 (.ref cA32) ct32), sl32⟩)
    (c32 : PySem.W.codeIn K (.ref cA32) "law" = true)
    (k32 : PySem.W.keepIn K (.ref f32) = true)
    (t32 : PySem.W.codeHdIn K cA32 pA32 = true)
    (u32 : K.lookup pA32 = none)
    (pn30_32 : pA30 ≠ pA32)
    (pn32_30 : pA32 ≠ pA30)
    (z0 : PySem.W.nsIn K mainGlobals "len" = some none)
    (z1 : PySem.W.nsIn K mainGlobals "int" = some none)
    (z2 : PySem.W.nsIn K mainGlobals "abs" = some none)
    (z3 : PySem.W.nsIn K mainGlobals "isinstance" = some none)
    (z4 : PySem.W.nsIn K mainGlobals "all" = some none)
    (z5 : PySem.W.nsIn K mainGlobals "any" = some none)
    (z6 : PySem.W.nsIn K mainGlobals "tuple" = some none)
    (z7 : PySem.W.nsIn K mainGlobals "list" = some none)
    (z8 : PySem.W.nsIn K mainGlobals "min" = some none)
    (z9 : PySem.W.nsIn K mainGlobals "max" = some none)
    (z10 : PySem.W.nsIn K mainGlobals "sum" = some none)
    (z11 : PySem.W.nsIn K mainGlobals "sorted" = some none)
    (z12 : PySem.W.nsIn K mainGlobals "range" = some none)
    (z13 : PySem.W.nsIn K mainGlobals "zip" = some none)
    (z14 : PySem.W.nsIn K mainGlobals "enumerate" = some none)
    (z15 : PySem.W.nsIn K mainGlobals "bool" = some none)
    (z16 : PySem.W.nsIn K mainGlobals "str" = some none)
    (z17 : PySem.W.nsIn K mainGlobals "dict" = some none)
    (z18 : PySem.W.nsIn K mainGlobals "super" = some none)
    (z19 : PySem.W.nsIn K mainGlobals "set" = some none)
    (q0 : PySem.W.nsIn K mainGlobals "MOST_STATES" = some (some (.int 256 q0t)))
    (q1 : PySem.W.nsIn K mainGlobals "MOST_LOCALS" = some (some (.int 64 q1t)))
    (q2 : PySem.W.nsIn K mainGlobals "MOST_STEPS" = some (some (.int 16384 q2t)))
    (q3 : PySem.W.nsIn K mainGlobals "MOST_KINDS" = some (some (.int 6 q3t)))
    (q4 : PySem.W.nsIn K mainGlobals "REST" = some (some (.ref q4A)))
    (q4q : K.lookup q4A = some ⟨.type "tuple", q4O, .seq #[] q4N, q4S⟩)
    (x0a : PySem.W.nsIn K mainGlobals "InvalidTeam" = some (some (.ref x0C)))
    (x0i : PySem.W.findIn K (.ref x0C) "__init__" = some (some (.ref x0fI)))
    (x0g : K.lookup x0fI = some ⟨x0oc, x0od, .func (PySem.W.ksFn "__init__" x0qual (defArgs st_InvalidTeam) (defBody st_InvalidTeam) (defScope st_InvalidTeam) .none x0kV x0doc x0pm x0an (.ref x0cda) x0ct x0cc), x0sl⟩)
    (x0h : K.lookup x0cc = some ⟨x0ocl, x0cld, .cell (some (.ref x0C)), x0csl⟩)
    (x0c : PySem.W.codeIn K (.ref x0cda) x0qual = true)
    (x0d : K.lookup x0cda = some ⟨x0ccl, x0cdd, .fields x0vs, x0ccs⟩)
    (x0v : x0vs[2]? = some (.str x0file x0tf))
    (x0p : ((P.main.file : Str) == x0file) = true)
    (x0o : ∃ nm q N bs bm sn sub ab col dd k0 k1 k2 k3 k5, K.lookup x0C = some (excClassObj nm q x0C N bs bm true sn sub ab col dd k0 k1 k2 k3 k5 "ValueError.__new__") ∧ PySem.HandSPX.refsVE bm = true)
    (x0s : PySem.W.findIn K (.ref x0C) "__setattr__" = some (some (.builtin "object.__setattr__")))
    (x0e : PySem.W.subIn K (.ref x0C) (.type "BaseException") = some true)
    (x0y : PySem.W.typeIn K (.ref x0C) = some (.type "type"))
    (x0k : PySem.W.keepIn K (.ref x0C) = true)
    (x0t : PySem.W.typeIn K (.ref x0fI) = some (.type "function"))
    (x0n : PySem.W.nsIn K cStatics "thirdparty.any" = some none)
    (x0u : PySem.W.ks_superIn K x0C x0C "__init__" = some (some (.builtin veI)))
    (x0b : PySem.W.subIn K (.ref x0C) (.type "ValueError") = some true)
    (x0m : PySem.W.mroIn K x0C (.ref x0C) = some true)
    (x0f : PySem.W.findIn K (.ref x0C) "at" = some none)
    (x0w : (P.main.scope.names.lookup ("super" : Str)).isSome = false)
    (x0G : PySem.W.findIn K (.ref x0C) "__getattribute__" = some (some (.builtin "BaseException.__getattribute__")))
    (x0H : PySem.W.findIn K (.ref x0C) "__getattr__" = some none)
    (x0D : PySem.W.hasDictIn K x0C = true)
    (x0E : PySem.W.exmOne K (.ref x0C) (.ref x0C) = some true)
    (x1a : PySem.W.nsIn K mainGlobals "Refused" = some (some (.ref x1C)))
    (x1i : PySem.W.findIn K (.ref x1C) "__init__" = some (some (.ref x1fI)))
    (x1g : K.lookup x1fI = some ⟨x1oc, x1od, .func (PySem.W.ksFn "__init__" x1qual (defArgs st_Refused) (defBody st_Refused) (defScope st_Refused) .none x1kV x1doc x1pm x1an (.ref x1cda) x1ct x1cc), x1sl⟩)
    (x1h : K.lookup x1cc = some ⟨x1ocl, x1cld, .cell (some (.ref x1C)), x1csl⟩)
    (x1c : PySem.W.codeIn K (.ref x1cda) x1qual = true)
    (x1d : K.lookup x1cda = some ⟨x1ccl, x1cdd, .fields x1vs, x1ccs⟩)
    (x1v : x1vs[2]? = some (.str x1file x1tf))
    (x1p : ((P.main.file : Str) == x1file) = true)
    (x1o : ∃ nm q N bs bm sn sub ab col dd k0 k1 k2 k3 k5, K.lookup x1C = some (excClassObj nm q x1C N bs bm true sn sub ab col dd k0 k1 k2 k3 k5 "ValueError.__new__") ∧ PySem.HandSPX.refsVE bm = true)
    (x1s : PySem.W.findIn K (.ref x1C) "__setattr__" = some (some (.builtin "object.__setattr__")))
    (x1e : PySem.W.subIn K (.ref x1C) (.type "BaseException") = some true)
    (x1y : PySem.W.typeIn K (.ref x1C) = some (.type "type"))
    (x1k : PySem.W.keepIn K (.ref x1C) = true)
    (x1t : PySem.W.typeIn K (.ref x1fI) = some (.type "function"))
    (x1n : PySem.W.nsIn K cStatics "thirdparty.any" = some none)
    (x1u : PySem.W.ks_superIn K x1C x1C "__init__" = some (some (.builtin veI)))
    (x1b : PySem.W.subIn K (.ref x1C) (.type "ValueError") = some true)
    (x1m : PySem.W.mroIn K x1C (.ref x1C) = some true)
    (x1f : PySem.W.findIn K (.ref x1C) "at" = some none)
    (x1w : (P.main.scope.names.lookup ("super" : Str)).isSome = false)
    (x1G : PySem.W.findIn K (.ref x1C) "__getattribute__" = some (some (.builtin "BaseException.__getattribute__")))
    (x1H : PySem.W.findIn K (.ref x1C) "__getattr__" = some none)
    (x1D : PySem.W.hasDictIn K x1C = true)
    (x1E : PySem.W.exmOne K (.ref x1C) (.ref x1C) = some true)
    (x1Fa : PySem.W.nsIn K mainGlobals "FairError" = some (some (.ref x1FC)))
    (x1FE : PySem.W.exmOne K (.ref x1C) (.ref x1FC) = some true)
    (x1FK : PySem.W.kitOne K (.ref x1C) (.ref x1C) = some true)
    (x1F1 : PySem.W.findIn K (.ref x1C) "__class__" = some (some (.builtin "object.__class__")))
    (x1F2 : PySem.W.specialIn K (.builtin "object.__class__") "__get__" = some (some (.builtin "getset_descriptor.__get__")))
    (x1F3 : PySem.W.takesIn K (.builtin "object.__class__") = some true)
    (x1F4 : PySem.W.mroIn K x1C (.type "object") = some true)
    (fin : ∀ ns : List Int, ns.length ≤ 63 → ∃ s, run tbl 1000 16 "law" [.fro (ns.map .int)] [] = .ok (.v (.bl true)) s)
    (hT : True ∧ h.get? pA30 = some { cls := .none, data := .fields #[] } ∧ h.get? pA32 = some { cls := .none, data := .fields #[] })
    : ∃ (fd : FuncData) (cs : List (Addr × Addr)), (∀ p ∈ cs, h.get? p.2 = some { cls := .none, data := .fields #[] }) ∧ (∀ p ∈ cs, K.lookup p.2 = none) ∧ (∀ p ∈ cs, PySem.W.CodeHd h p.1 p.2) ∧ (∀ (s : Shared) (v : Value), BindsTo s fd ⟨[v], []⟩ [("script", v)]) ∧ ∀ base : Heap, K.In base → base.Ns mainGlobals mg → (∀ p ∈ cs, LamX.TabB base mg p.1 p.2) → FnOk P w K mg base (L2.CX P w) 67 fa fd ["script"] (spLaw K (cs.map (·.2))) := by
  have e := hfa.symm.trans (PySem.W.mg_of X G a32)
  cases e
  obtain ⟨_, hT30, hT32⟩ := hT
  have F0 := FunX.of (fun_mk (st := st_is_integer) l0 c0 k0)
  have B0 := (fun_mk (st := st_is_integer) l0 c0 k0).binds (ps := ["value"]) fun _ _ _ _ _ _ us hl => match us, hl with | [_], _ => rfl
  subst e1
  have F1 : FunX K "is_number" "is_number" st_is_number f1 _ := ⟨⟨oc1, od1, _, kV1, dc1, pm1, an1, cd1, ct1, sl1, rfl, l1, c1⟩, k1⟩
  have B1 : L2.Binds K (PySem.W.fnOf "is_number" "is_number" (defArgs st_is_number) (defBody st_is_number) (defScope st_is_number) (.ref dA1) kV1 dc1 pm1 an1 cd1 ct1) ["value", "most"] [] := binds_dv0 d1 rfl fun us hl => match us, hl with | [_, _], _ => ⟨_, rfl, rfl⟩
  have C1 : L2.Binds K (PySem.W.fnOf "is_number" "is_number" (defArgs st_is_number) (defBody st_is_number) (defScope st_is_number) (.ref dA1) kV1 dc1 pm1 an1 cd1 ct1) ["value", "most"] [.none] := binds_dv d1 rfl fun us hl => match us, hl with | [_], _ => ⟨_, rfl, rfl⟩
  have F2 := FunX.of (fun_mk (st := st_is_size) l2 c2 k2)
  have B2 := (fun_mk (st := st_is_size) l2 c2 k2).binds (ps := ["value", "most"]) fun _ _ _ _ _ _ us hl => match us, hl with | [_, _], _ => rfl
  have F3 := FunX.of (fun_mk (st := st_is_sequence) l3 c3 k3)
  have B3 := (fun_mk (st := st_is_sequence) l3 c3 k3).binds (ps := ["value"]) fun _ _ _ _ _ _ us hl => match us, hl with | [_], _ => rfl
  have F4 := FunX.of (fun_mk (st := st_is_row) l4 c4 k4)
  have B4 := (fun_mk (st := st_is_row) l4 c4 k4).binds (ps := ["value", "mosts"]) fun _ _ _ _ _ _ us hl => match us, hl with | [_, _], _ => rfl
  have F5 := FunX.of (fun_mk (st := st_checked_kind) l5 c5 k5)
  have B5 := (fun_mk (st := st_checked_kind) l5 c5 k5).binds (ps := ["value", "i", "states"]) fun _ _ _ _ _ _ us hl => match us, hl with | [_, _, _], _ => rfl
  have F6 := FunX.of (fun_mk (st := st_steps_from) l6 c6 k6)
  have B6 := (fun_mk (st := st_steps_from) l6 c6 k6).binds (ps := ["kind"]) fun _ _ _ _ _ _ us hl => match us, hl with | [_], _ => rfl
  have F7 := FunX.of (fun_mk (st := st_Team___init__) l7 c7 k7)
  have B7 := (fun_mk (st := st_Team___init__) l7 c7 k7).binds (ps := ["self", "states", "start", "singles", "crowds"]) fun _ _ _ _ _ _ us hl => match us, hl with | [_, _, _, _, _], _ => rfl
  have F8 := FunX.of (fun_mk (st := st_moves_from) l8 c8 k8)
  have B8 := (fun_mk (st := st_moves_from) l8 c8 k8).binds (ps := ["team", "s", "i", "l"]) fun _ _ _ _ _ _ us hl => match us, hl with | [_, _, _, _], _ => rfl
  have F9 := FunX.of (fun_mk (st := st_is_step) l9 c9 k9)
  have B9 := (fun_mk (st := st_is_step) l9 c9 k9).binds (ps := ["team", "i", "s", "l", "value"]) fun _ _ _ _ _ _ us hl => match us, hl with | [_, _, _, _, _], _ => rfl
  have F10 := FunX.of (fun_mk (st := st_need_singles) l10 c10 k10)
  have B10 := (fun_mk (st := st_need_singles) l10 c10 k10).binds (ps := ["team"]) fun _ _ _ _ _ _ us hl => match us, hl with | [_], _ => rfl
  have F11 := FunX.of (fun_mk (st := st_opening) l11 c11 k11)
  have B11 := (fun_mk (st := st_opening) l11 c11 k11).binds (ps := ["team"]) fun _ _ _ _ _ _ us hl => match us, hl with | [_], _ => rfl
  have F12 := FunX.of (fun_mk (st := st_is_situation) l12 c12 k12)
  have B12 := (fun_mk (st := st_is_situation) l12 c12 k12).binds (ps := ["team", "value"]) fun _ _ _ _ _ _ us hl => match us, hl with | [_, _], _ => rfl
  have F13 := FunX.of (fun_mk (st := st_is_rest) l13 c13 k13)
  have B13 := (fun_mk (st := st_is_rest) l13 c13 k13).binds (ps := ["value"]) fun _ _ _ _ _ _ us hl => match us, hl with | [_], _ => rfl
  have F14 := FunX.of (fun_mk (st := st_moves_at) l14 c14 k14)
  have B14 := (fun_mk (st := st_moves_at) l14 c14 k14).binds (ps := ["team", "situation"]) fun _ _ _ _ _ _ us hl => match us, hl with | [_, _], _ => rfl
  have F15 := FunX.of (fun_mk (st := st_is_move_at) l15 c15 k15)
  have B15 := (fun_mk (st := st_is_move_at) l15 c15 k15).binds (ps := ["team", "situation", "value"]) fun _ _ _ _ _ _ us hl => match us, hl with | [_, _, _], _ => rfl
  have F16 := FunX.of (fun_mk (st := st_led) l16 c16 k16)
  have B16 := (fun_mk (st := st_led) l16 c16 k16).binds (ps := ["situation", "move"]) fun _ _ _ _ _ _ us hl => match us, hl with | [_, _], _ => rfl
  have F17 := FunX.of (fun_mk (st := st_gone) l17 c17 k17)
  have B17 := (fun_mk (st := st_gone) l17 c17 k17).binds (ps := ["team", "situation", "move"]) fun _ _ _ _ _ _ us hl => match us, hl with | [_, _, _], _ => rfl
  have F18 := FunX.of (fun_mk (st := st_is_stuck) l18 c18 k18)
  have B18 := (fun_mk (st := st_is_stuck) l18 c18 k18).binds (ps := ["team", "situation"]) fun _ _ _ _ _ _ us hl => match us, hl with | [_, _], _ => rfl
  have F19 := FunX.of (fun_mk (st := st__law_well) l19 c19 k19)
  have B19 := (fun_mk (st := st__law_well) l19 c19 k19).binds (ps := ["script"]) fun _ _ _ _ _ _ us hl => match us, hl with | [_], _ => rfl
  have F20 := FunX.of (fun_mk (st := st__law_dip) l20 c20 k20)
  have B20 := (fun_mk (st := st__law_dip) l20 c20 k20).binds (ps := ["well", "many"]) fun _ _ _ _ _ _ us hl => match us, hl with | [_, _], _ => rfl
  have F21 := FunX.of (fun_mk (st := st__law_one) l21 c21 k21)
  have B21 := (fun_mk (st := st__law_one) l21 c21 k21).binds (ps := ["well", "some"]) fun _ _ _ _ _ _ us hl => match us, hl with | [_, _], _ => rfl
  have F22 := FunX.of (fun_mk (st := st__law_like) l22 c22 k22)
  have B22 := (fun_mk (st := st__law_like) l22 c22 k22).binds (ps := ["told", "due"]) fun _ _ _ _ _ _ us hl => match us, hl with | [_, _], _ => rfl
  have F23 := FunX.of (fun_mk (st := st__law_heard) l23 c23 k23)
  have B23 := (fun_mk (st := st__law_heard) l23 c23 k23).binds (ps := ["work"]) fun _ _ _ _ _ _ us hl => match us, hl with | [_], _ => rfl
  have F24 := FunX.of (fun_mk (st := st__law_kind) l24 c24 k24)
  have B24 := (fun_mk (st := st__law_kind) l24 c24 k24).binds (ps := ["well", "states", "size"]) fun _ _ _ _ _ _ us hl => match us, hl with | [_, _, _], _ => rfl
  have F25 := FunX.of (fun_mk (st := st__law_team) l25 c25 k25)
  have B25 := (fun_mk (st := st__law_team) l25 c25 k25).binds (ps := ["well", "most"]) fun _ _ _ _ _ _ us hl => match us, hl with | [_, _], _ => rfl
  have F26 := FunX.of (fun_mk (st := st__law_opening) l26 c26 k26)
  have B26 := (fun_mk (st := st__law_opening) l26 c26 k26).binds (ps := ["start", "kinds"]) fun _ _ _ _ _ _ us hl => match us, hl with | [_, _], _ => rfl
  have F27 := FunX.of (fun_mk (st := st__law_moves) l27 c27 k27)
  have B27 := (fun_mk (st := st__law_moves) l27 c27 k27).binds (ps := ["kinds", "there"]) fun _ _ _ _ _ _ us hl => match us, hl with | [_, _], _ => rfl
  have F28 := FunX.of (fun_mk (st := st__law_led) l28 c28 k28)
  have B28 := (fun_mk (st := st__law_led) l28 c28 k28).binds (ps := ["there", "move"]) fun _ _ _ _ _ _ us hl => match us, hl with | [_, _], _ => rfl
  have F29 := FunX.of (fun_mk (st := st__law_any_there) l29 c29 k29)
  have B29 := (fun_mk (st := st__law_any_there) l29 c29 k29).binds (ps := ["well", "states", "kinds"]) fun _ _ _ _ _ _ us hl => match us, hl with | [_, _, _], _ => rfl
  have F30 := FunX.of (fun_mk (st := st__law_moves_told) l30 c30 k30)
  have B30 := (fun_mk (st := st__law_moves_told) l30 c30 k30).binds (ps := ["well", "team", "states", "kinds", "there"]) fun _ _ _ _ _ _ us hl => match us, hl with | [_, _, _, _, _], _ => rfl
  have F31 := FunX.of (fun_mk (st := st__law_odd_theres) l31 c31 k31)
  have B31 := (fun_mk (st := st__law_odd_theres) l31 c31 k31).binds (ps := ["there", "states", "kinds"]) fun _ _ _ _ _ _ us hl => match us, hl with | [_, _, _], _ => rfl
  have F32 := FunX.of (fun_mk (st := st_law) l32 c32 k32)
  have B32 := (fun_mk (st := st_law) l32 c32 k32).binds (ps := ["script"]) fun _ _ _ _ _ _ us hl => match us, hl with | [_], _ => rfl
  refine ⟨PySem.W.fnOf "law" "law" (defArgs st_law) (defBody st_law) (defScope st_law) .none kV32 dc32 pm32 an32 (.ref cA32) ct32, [(cA30, pA30), (cA32, pA32)], ?_, ?_, ?_, fun s v => .of_eq rfl, fun base _ _ hB => ?_⟩
  · intro p hp
    simp only [List.mem_cons, List.not_mem_nil, or_false] at hp
    rcases hp with rfl | rfl
    · exact hT30
    · exact hT32
  · intro p hp
    simp only [List.mem_cons, List.not_mem_nil, or_false] at hp
    rcases hp with rfl | rfl
    · exact u30
    · exact u32
  · intro p hp
    simp only [List.mem_cons, List.not_mem_nil, or_false] at hp
    rcases hp with rfl | rfl
    · exact PySem.W.codeHd_of_K X t30
    · exact PySem.W.codeHd_of_K X t32
  have LB30 : ∃ c P, LamX.TabB base mg c P ∧ (Value.ref cA30) = .ref c ∧ (P, ("_law_moves_told" : Str) ++ ".<locals>." ++ "<lambda>") ∈ (⟨K, gaOf mg, [(pA30, "_law_moves_told.<locals>.<lambda>"), (pA32, "law.<locals>.<lambda>")]⟩ : Glo).T ∧ ∀ p ∈ (⟨K, gaOf mg, [(pA30, "_law_moves_told.<locals>.<lambda>"), (pA32, "law.<locals>.<lambda>")]⟩ : Glo).T, p.1 = P → p.2 = ("_law_moves_told" : Str) ++ ".<locals>." ++ "<lambda>" := by
    refine ⟨cA30, pA30, hB (cA30, pA30) (List.Mem.head _), rfl, (List.Mem.head _), fun p hp e => ?_⟩
    rcases List.mem_cons.mp hp with rfl | hp
    · exact rfl
    rcases List.mem_cons.mp hp with rfl | hp
    · exact absurd e pn32_30
    cases hp
  have LB32 : ∃ c P, LamX.TabB base mg c P ∧ (Value.ref cA32) = .ref c ∧ (P, ("law" : Str) ++ ".<locals>." ++ "<lambda>") ∈ (⟨K, gaOf mg, [(pA30, "_law_moves_told.<locals>.<lambda>"), (pA32, "law.<locals>.<lambda>")]⟩ : Glo).T ∧ ∀ p ∈ (⟨K, gaOf mg, [(pA30, "_law_moves_told.<locals>.<lambda>"), (pA32, "law.<locals>.<lambda>")]⟩ : Glo).T, p.1 = P → p.2 = ("law" : Str) ++ ".<locals>." ++ "<lambda>" := by
    refine ⟨cA32, pA32, hB (cA32, pA32) (List.Mem.tail _ (List.Mem.head _)), rfl, (List.Mem.tail _ (List.Mem.head _)), fun p hp e => ?_⟩
    rcases List.mem_cons.mp hp with rfl | hp
    · exact absurd e pn30_32
    rcases List.mem_cons.mp hp with rfl | hp
    · exact rfl
    cases hp
  have T : TopOk ⟨K, gaOf mg, [(pA30, "_law_moves_told.<locals>.<lambda>"), (pA32, "law.<locals>.<lambda>")]⟩ P w base tbl mg := by
    refine ⟨fun f => ?_, ⟨PySem.W.mg_none_of X G z12, PySem.W.mg_none_of X G z13, PySem.W.mg_none_of X G z14⟩, PySem.W.mg_none_of X G z19, fun p hp => ?_, fun x c hc => ?_, fun x c hc => ?_, fun c hc => ?_, fun x d hd => ?_, nfs_of (L := nfL) (fun c f h => of_decide_eq_true h) ?_⟩
    · cases f
      · exact PySem.W.mg_none_of X G z0
      · exact PySem.W.mg_none_of X G z1
      · exact PySem.W.mg_none_of X G z2
      · exact PySem.W.mg_none_of X G z3
      · exact PySem.W.mg_none_of X G z4
      · exact PySem.W.mg_none_of X G z5
      · exact PySem.W.mg_none_of X G z6
      · exact PySem.W.mg_none_of X G z7
      · exact PySem.W.mg_none_of X G z8
      · exact PySem.W.mg_none_of X G z9
      · exact PySem.W.mg_none_of X G z10
      · exact PySem.W.mg_none_of X G z11
    · simp only [tyNames, List.mem_cons, List.not_mem_nil, or_false] at hp
      rcases hp with rfl | rfl | rfl | rfl | rfl | rfl
      · exact PySem.W.mg_none_of X G z1
      · exact PySem.W.mg_none_of X G z15
      · exact PySem.W.mg_none_of X G z16
      · exact PySem.W.mg_none_of X G z6
      · exact PySem.W.mg_none_of X G z7
      · exact PySem.W.mg_none_of X G z17
    · have hc : hdn x = some c := hc
      unfold hdn at hc
      cases hc
    · have hc : hd2n x = some c := hc
      unfold hd2n at hc
      split at hc
      · rename_i e; subst e; cases hc
        exact ⟨f23, x1FC, x1C, _, _, _, _, _, _, _, _, _, _, _, _, ["work", "error"], _, _, _, 1, 0, 0, h2P (defBody st__law_heard), PySem.W.mg_of X G a23, k23, (by rw [← h2__law_heard]; exact l23), c23, (by rw [← h2__law_heard]; exact B23), sc__law_heard, rfl, visB_ok (by decide +kernel), rfl, rfl, rfl, PySem.W.mg_of X G x1Fa, rfl, PySem.W.mg_of X G x1a, ga_of (PySem.W.mg_of X G x1a), rfl, PySem.W.mg_none_of X G z3, ⟨x1G, x1H, x1e, x1D⟩, ⟨x1G, x1H, x1e, x1D, x1F1, x1F2, x1F3, x1F4⟩, x1f, by decide, by decide, by decide, by decide, by decide, by decide, by decide, x1FE, x1FK, fun _ => rfl⟩
      cases hc
    · have hc : c ∈ (["InvalidTeam", "Refused"] : List Str) := by simpa [tbl, xcn] using hc
      simp only [List.mem_cons, List.not_mem_nil, or_false] at hc
      rcases hc with rfl | rfl
      · refine xc_mk (C := x0C) (PySem.W.mg_of X G x0a) (ga_of (PySem.W.mg_of X G x0a)) (dV := .none) (qual := x0qual) (params := defArgs st_InvalidTeam) (body := defBody st_InvalidTeam) (scope := defScope st_InvalidTeam) (cdv := .ref x0cda) (kV := x0kV) (doc := x0doc) (pm := x0pm) (an := x0an) (ct := x0ct) ?_ x0i x0t (fun cc us hl => match us, hl with | [_, _], _ => rfl)
        exact ⟨⟨x0o, x0s, x0e, x0y, x0k⟩, ⟨_, _, _, _, x0g, _, _, _, x0h⟩, x0c, ⟨_, _, _, _, _, _, _, rfl, x0d, x0v, x0p⟩, ⟨_, rfl, rfl⟩, rfl, rfl, rfl, by decide +kernel, rfl, rfl, rfl, rfl, x0w, PySem.W.mg_none_of X G z18, x0n, x0u, x0b, x0m, x0f, ⟨_, _, _, _, _, _, _, _, _, _, fun q L f cd cc => ⟨_, rfl⟩, rfl⟩⟩
      · refine xc_mk (C := x1C) (PySem.W.mg_of X G x1a) (ga_of (PySem.W.mg_of X G x1a)) (dV := .none) (qual := x1qual) (params := defArgs st_Refused) (body := defBody st_Refused) (scope := defScope st_Refused) (cdv := .ref x1cda) (kV := x1kV) (doc := x1doc) (pm := x1pm) (an := x1an) (ct := x1ct) ?_ x1i x1t (fun cc us hl => match us, hl with | [_, _], _ => rfl)
        exact ⟨⟨x1o, x1s, x1e, x1y, x1k⟩, ⟨_, _, _, _, x1g, _, _, _, x1h⟩, x1c, ⟨_, _, _, _, _, _, _, rfl, x1d, x1v, x1p⟩, ⟨_, rfl, rfl⟩, rfl, rfl, rfl, by decide +kernel, rfl, rfl, rfl, rfl, x1w, PySem.W.mg_none_of X G z18, x1n, x1u, x1b, x1m, x1f, ⟨_, _, _, _, _, _, _, _, _, _, fun q L f cd cc => ⟨_, rfl⟩, rfl⟩⟩
    · have hd : cns x = some d := hd
      unfold cns at hd
      split at hd
      · rename_i e; subst e; cases hd; exact con_rk (PySem.W.mg_of X G q0) (.int _ _)
      split at hd
      · rename_i e; subst e; cases hd; exact con_rk (PySem.W.mg_of X G q1) (.int _ _)
      split at hd
      · rename_i e; subst e; cases hd; exact con_rk (PySem.W.mg_of X G q2) (.int _ _)
      split at hd
      · rename_i e; subst e; cases hd; exact con_rk (PySem.W.mg_of X G q3) (.int _ _)
      split at hd
      · rename_i e; subst e; cases hd; exact con_rk (PySem.W.mg_of X G q4) (.ref (rk_tup q4q rfl rfl (show 0 ≤ sizeLine by rw [sizeLine_eq]; decide) .nil))
      cases hd
    · unfold nfL
      refine all_cons ?n7_0 <| all_cons ?n7_1 <| all_cons ?n7_2 <| all_cons ?n7_3 <| all_cons ?n7_4 <| all_cons ?n7_5 <| all_cons ?n7_6 <| all_nil
      case n7_0 => exact (show NoAttr K (gaOf mg "Team") _ from by rw [ga_of (PySem.W.mg_of X G a7)]; exact mn7_0)
      case n7_1 => exact (show NoAttr K (gaOf mg "Team") _ from by rw [ga_of (PySem.W.mg_of X G a7)]; exact mn7_1)
      case n7_2 => exact (show NoAttr K (gaOf mg "Team") _ from by rw [ga_of (PySem.W.mg_of X G a7)]; exact mn7_2)
      case n7_3 => exact (show NoAttr K (gaOf mg "Team") _ from by rw [ga_of (PySem.W.mg_of X G a7)]; exact mn7_3)
      case n7_4 => exact (show NoAttr K (gaOf mg "Team") _ from by rw [ga_of (PySem.W.mg_of X G a7)]; exact mn7_4)
      case n7_5 => exact (show NoAttr K (gaOf mg "Team") _ from by rw [ga_of (PySem.W.mg_of X G a7)]; exact mn7_5)
      case n7_6 => exact (show NoAttr K (gaOf mg "Team") _ from by rw [ga_of (PySem.W.mg_of X G a7)]; exact mn7_6)
  have PL0 : Placed ⟨K, gaOf mg, [(pA30, "_law_moves_told.<locals>.<lambda>"), (pA32, "law.<locals>.<lambda>")]⟩ tbl mg "is_integer" f0 := placed_glob mt_is_integer (PySem.W.mg_of X G a0) k0
  have PL1 : Placed ⟨K, gaOf mg, [(pA30, "_law_moves_told.<locals>.<lambda>"), (pA32, "law.<locals>.<lambda>")]⟩ tbl mg "is_number" f1 := placed_glob mt_is_number (PySem.W.mg_of X G a1) k1
  have PL2 : Placed ⟨K, gaOf mg, [(pA30, "_law_moves_told.<locals>.<lambda>"), (pA32, "law.<locals>.<lambda>")]⟩ tbl mg "is_size" f2 := placed_glob mt_is_size (PySem.W.mg_of X G a2) k2
  have PL3 : Placed ⟨K, gaOf mg, [(pA30, "_law_moves_told.<locals>.<lambda>"), (pA32, "law.<locals>.<lambda>")]⟩ tbl mg "is_sequence" f3 := placed_glob mt_is_sequence (PySem.W.mg_of X G a3) k3
  have PL4 : Placed ⟨K, gaOf mg, [(pA30, "_law_moves_told.<locals>.<lambda>"), (pA32, "law.<locals>.<lambda>")]⟩ tbl mg "is_row" f4 := placed_glob mt_is_row (PySem.W.mg_of X G a4) k4
  have PL5 : Placed ⟨K, gaOf mg, [(pA30, "_law_moves_told.<locals>.<lambda>"), (pA32, "law.<locals>.<lambda>")]⟩ tbl mg "checked_kind" f5 := placed_glob mt_checked_kind (PySem.W.mg_of X G a5) k5
  have PL6 : Placed ⟨K, gaOf mg, [(pA30, "_law_moves_told.<locals>.<lambda>"), (pA32, "law.<locals>.<lambda>")]⟩ tbl mg "steps_from" f6 := placed_glob mt_steps_from (PySem.W.mg_of X G a6) k6
  have PL7 : Placed ⟨K, gaOf mg, [(pA30, "_law_moves_told.<locals>.<lambda>"), (pA32, "law.<locals>.<lambda>")]⟩ tbl mg "Team.__init__" f7 := placed_init (C := cC7) mt_Team___init__ (PySem.W.mg_of X G a7) (ga_of (PySem.W.mg_of X G a7)) ⟨mk7, mi7, mf7, mq7⟩ ⟨mg7, mh7, mo7, ms7⟩
  have PL8 : Placed ⟨K, gaOf mg, [(pA30, "_law_moves_told.<locals>.<lambda>"), (pA32, "law.<locals>.<lambda>")]⟩ tbl mg "moves_from" f8 := placed_glob mt_moves_from (PySem.W.mg_of X G a8) k8
  have PL9 : Placed ⟨K, gaOf mg, [(pA30, "_law_moves_told.<locals>.<lambda>"), (pA32, "law.<locals>.<lambda>")]⟩ tbl mg "is_step" f9 := placed_glob mt_is_step (PySem.W.mg_of X G a9) k9
  have PL10 : Placed ⟨K, gaOf mg, [(pA30, "_law_moves_told.<locals>.<lambda>"), (pA32, "law.<locals>.<lambda>")]⟩ tbl mg "need_singles" f10 := placed_glob mt_need_singles (PySem.W.mg_of X G a10) k10
  have PL11 : Placed ⟨K, gaOf mg, [(pA30, "_law_moves_told.<locals>.<lambda>"), (pA32, "law.<locals>.<lambda>")]⟩ tbl mg "opening" f11 := placed_glob mt_opening (PySem.W.mg_of X G a11) k11
  have PL12 : Placed ⟨K, gaOf mg, [(pA30, "_law_moves_told.<locals>.<lambda>"), (pA32, "law.<locals>.<lambda>")]⟩ tbl mg "is_situation" f12 := placed_glob mt_is_situation (PySem.W.mg_of X G a12) k12
  have PL13 : Placed ⟨K, gaOf mg, [(pA30, "_law_moves_told.<locals>.<lambda>"), (pA32, "law.<locals>.<lambda>")]⟩ tbl mg "is_rest" f13 := placed_glob mt_is_rest (PySem.W.mg_of X G a13) k13
  have PL14 : Placed ⟨K, gaOf mg, [(pA30, "_law_moves_told.<locals>.<lambda>"), (pA32, "law.<locals>.<lambda>")]⟩ tbl mg "moves_at" f14 := placed_glob mt_moves_at (PySem.W.mg_of X G a14) k14
  have PL15 : Placed ⟨K, gaOf mg, [(pA30, "_law_moves_told.<locals>.<lambda>"), (pA32, "law.<locals>.<lambda>")]⟩ tbl mg "is_move_at" f15 := placed_glob mt_is_move_at (PySem.W.mg_of X G a15) k15
  have PL16 : Placed ⟨K, gaOf mg, [(pA30, "_law_moves_told.<locals>.<lambda>"), (pA32, "law.<locals>.<lambda>")]⟩ tbl mg "led" f16 := placed_glob mt_led (PySem.W.mg_of X G a16) k16
  have PL17 : Placed ⟨K, gaOf mg, [(pA30, "_law_moves_told.<locals>.<lambda>"), (pA32, "law.<locals>.<lambda>")]⟩ tbl mg "gone" f17 := placed_glob mt_gone (PySem.W.mg_of X G a17) k17
  have PL18 : Placed ⟨K, gaOf mg, [(pA30, "_law_moves_told.<locals>.<lambda>"), (pA32, "law.<locals>.<lambda>")]⟩ tbl mg "is_stuck" f18 := placed_glob mt_is_stuck (PySem.W.mg_of X G a18) k18
  have PL19 : Placed ⟨K, gaOf mg, [(pA30, "_law_moves_told.<locals>.<lambda>"), (pA32, "law.<locals>.<lambda>")]⟩ tbl mg "_law_well" f19 := placed_glob mt__law_well (PySem.W.mg_of X G a19) k19
  have PL20 : Placed ⟨K, gaOf mg, [(pA30, "_law_moves_told.<locals>.<lambda>"), (pA32, "law.<locals>.<lambda>")]⟩ tbl mg "_law_dip" f20 := placed_glob mt__law_dip (PySem.W.mg_of X G a20) k20
  have PL21 : Placed ⟨K, gaOf mg, [(pA30, "_law_moves_told.<locals>.<lambda>"), (pA32, "law.<locals>.<lambda>")]⟩ tbl mg "_law_one" f21 := placed_glob mt__law_one (PySem.W.mg_of X G a21) k21
  have PL22 : Placed ⟨K, gaOf mg, [(pA30, "_law_moves_told.<locals>.<lambda>"), (pA32, "law.<locals>.<lambda>")]⟩ tbl mg "_law_like" f22 := placed_glob mt__law_like (PySem.W.mg_of X G a22) k22
  have PL23 : Placed ⟨K, gaOf mg, [(pA30, "_law_moves_told.<locals>.<lambda>"), (pA32, "law.<locals>.<lambda>")]⟩ tbl mg "_law_heard" f23 := placed_glob mt__law_heard (PySem.W.mg_of X G a23) k23
  have PL24 : Placed ⟨K, gaOf mg, [(pA30, "_law_moves_told.<locals>.<lambda>"), (pA32, "law.<locals>.<lambda>")]⟩ tbl mg "_law_kind" f24 := placed_glob mt__law_kind (PySem.W.mg_of X G a24) k24
  have PL25 : Placed ⟨K, gaOf mg, [(pA30, "_law_moves_told.<locals>.<lambda>"), (pA32, "law.<locals>.<lambda>")]⟩ tbl mg "_law_team" f25 := placed_glob mt__law_team (PySem.W.mg_of X G a25) k25
  have PL26 : Placed ⟨K, gaOf mg, [(pA30, "_law_moves_told.<locals>.<lambda>"), (pA32, "law.<locals>.<lambda>")]⟩ tbl mg "_law_opening" f26 := placed_glob mt__law_opening (PySem.W.mg_of X G a26) k26
  have PL27 : Placed ⟨K, gaOf mg, [(pA30, "_law_moves_told.<locals>.<lambda>"), (pA32, "law.<locals>.<lambda>")]⟩ tbl mg "_law_moves" f27 := placed_glob mt__law_moves (PySem.W.mg_of X G a27) k27
  have PL28 : Placed ⟨K, gaOf mg, [(pA30, "_law_moves_told.<locals>.<lambda>"), (pA32, "law.<locals>.<lambda>")]⟩ tbl mg "_law_led" f28 := placed_glob mt__law_led (PySem.W.mg_of X G a28) k28
  have PL29 : Placed ⟨K, gaOf mg, [(pA30, "_law_moves_told.<locals>.<lambda>"), (pA32, "law.<locals>.<lambda>")]⟩ tbl mg "_law_any_there" f29 := placed_glob mt__law_any_there (PySem.W.mg_of X G a29) k29
  have PL30 : Placed ⟨K, gaOf mg, [(pA30, "_law_moves_told.<locals>.<lambda>"), (pA32, "law.<locals>.<lambda>")]⟩ tbl mg "_law_moves_told" f30 := placed_glob mt__law_moves_told (PySem.W.mg_of X G a30) k30
  have PL31 : Placed ⟨K, gaOf mg, [(pA30, "_law_moves_told.<locals>.<lambda>"), (pA32, "law.<locals>.<lambda>")]⟩ tbl mg "_law_odd_theres" f31 := placed_glob mt__law_odd_theres (PySem.W.mg_of X G a31) k31
  have PL32 : Placed ⟨K, gaOf mg, [(pA30, "_law_moves_told.<locals>.<lambda>"), (pA32, "law.<locals>.<lambda>")]⟩ tbl mg "law" fa := placed_glob mt_law (PySem.W.mg_of X G a32) k32
  have D : ∀ p ∈ fnL, DefOk ⟨K, gaOf mg, [(pA30, "_law_moves_told.<locals>.<lambda>"), (pA32, "law.<locals>.<lambda>")]⟩ mg base tbl p.1 p.2 := by
    unfold fnL
    refine all_cons ?d0 <| all_cons ?d1 <| all_cons ?d2 <| all_cons ?d3 <| all_cons ?d4 <| all_cons ?d5 <| all_cons ?d6 <| all_cons ?d7 <| all_cons ?d8 <| all_cons ?d9 <| all_cons ?d10 <| all_cons ?d11 <| all_cons ?d12 <| all_cons ?d13 <| all_cons ?d14 <| all_cons ?d15 <| all_cons ?d16 <| all_cons ?d17 <| all_cons ?d18 <| all_cons ?d19 <| all_cons ?d20 <| all_cons ?d21 <| all_cons ?d22 <| all_cons ?d24 <| all_cons ?d25 <| all_cons ?d26 <| all_cons ?d27 <| all_cons ?d28 <| all_cons ?d29 <| all_cons ?d30 <| all_cons ?d31 <| all_cons ?d32 <| all_nil
    case d0 => exact ⟨_, _, _, _, _, _, false, _, F0, sc_is_integer, rfl, rfl, PL0, ck_is_integer, binds0 (K := K) B0 rfl rfl, fun z => by cases z⟩
    case d1 => exact ⟨_, _, _, _, _, _, false, _, F1, sc_is_number, rfl, rfl, PL1, ck_is_number, binds1 B1 C1 rfl rfl (show RelV .non .none from rfl) (fun _ _ => .non), fun z => by cases z⟩
    case d2 => exact ⟨_, _, _, _, _, _, false, _, F2, sc_is_size, rfl, rfl, PL2, ck_is_size, binds0 (K := K) B2 rfl rfl, fun z => by cases z⟩
    case d3 => exact ⟨_, _, _, _, _, _, false, _, F3, sc_is_sequence, rfl, rfl, PL3, ck_is_sequence, binds0 (K := K) B3 rfl rfl, fun z => by cases z⟩
    case d4 => exact ⟨_, _, _, _, _, _, false, _, F4, sc_is_row, rfl, rfl, PL4, ck_is_row, binds0 (K := K) B4 rfl rfl, fun z => by cases z⟩
    case d5 => exact ⟨_, _, _, _, _, _, false, _, F5, sc_checked_kind, rfl, rfl, PL5, ck_checked_kind, binds0 (K := K) B5 rfl rfl, fun z => by cases z⟩
    case d6 => exact ⟨_, _, _, _, _, _, false, _, F6, sc_steps_from, rfl, rfl, PL6, ck_steps_from, binds0 (K := K) B6 rfl rfl, fun z => by cases z⟩
    case d7 => exact ⟨_, _, _, _, _, _, false, _, F7, sc_Team___init__, rfl, rfl, PL7, ck_Team___init__, binds0 (K := K) B7 rfl rfl, fun z => by cases z⟩
    case d8 => exact ⟨_, _, _, _, _, _, false, _, F8, sc_moves_from, rfl, rfl, PL8, ck_moves_from, binds0 (K := K) B8 rfl rfl, fun z => by cases z⟩
    case d9 => exact ⟨_, _, _, _, _, _, false, _, F9, sc_is_step, rfl, rfl, PL9, ck_is_step, binds0 (K := K) B9 rfl rfl, fun z => by cases z⟩
    case d10 => exact ⟨_, _, _, _, _, _, false, _, F10, sc_need_singles, rfl, rfl, PL10, ck_need_singles, binds0 (K := K) B10 rfl rfl, fun z => by cases z⟩
    case d11 => exact ⟨_, _, _, _, _, _, false, _, F11, sc_opening, rfl, rfl, PL11, ck_opening, binds0 (K := K) B11 rfl rfl, fun z => by cases z⟩
    case d12 => exact ⟨_, _, _, _, _, _, false, _, F12, sc_is_situation, rfl, rfl, PL12, ck_is_situation, binds0 (K := K) B12 rfl rfl, fun z => by cases z⟩
    case d13 => exact ⟨_, _, _, _, _, _, false, _, F13, sc_is_rest, rfl, rfl, PL13, ck_is_rest, binds0 (K := K) B13 rfl rfl, fun z => by cases z⟩
    case d14 => exact ⟨_, _, _, _, _, _, false, _, F14, sc_moves_at, rfl, rfl, PL14, ck_moves_at, binds0 (K := K) B14 rfl rfl, fun z => by cases z⟩
    case d15 => exact ⟨_, _, _, _, _, _, false, _, F15, sc_is_move_at, rfl, rfl, PL15, ck_is_move_at, binds0 (K := K) B15 rfl rfl, fun z => by cases z⟩
    case d16 => exact ⟨_, _, _, _, _, _, false, _, F16, sc_led, rfl, rfl, PL16, ck_led, binds0 (K := K) B16 rfl rfl, fun z => by cases z⟩
    case d17 => exact ⟨_, _, _, _, _, _, false, _, F17, sc_gone, rfl, rfl, PL17, ck_gone, binds0 (K := K) B17 rfl rfl, fun z => by cases z⟩
    case d18 => exact ⟨_, _, _, _, _, _, false, _, F18, sc_is_stuck, rfl, rfl, PL18, ck_is_stuck, binds0 (K := K) B18 rfl rfl, fun z => by cases z⟩
    case d19 => exact ⟨_, _, _, _, _, _, false, _, F19, sc__law_well, rfl, rfl, PL19, ck__law_well, binds0 (K := K) B19 rfl rfl, fun z => by cases z⟩
    case d20 => exact ⟨_, _, _, _, _, _, false, _, F20, sc__law_dip, rfl, rfl, PL20, ck__law_dip, binds0 (K := K) B20 rfl rfl, fun z => by cases z⟩
    case d21 => exact ⟨_, _, _, _, _, _, false, _, F21, sc__law_one, rfl, rfl, PL21, ck__law_one, binds0 (K := K) B21 rfl rfl, fun z => by cases z⟩
    case d22 => exact ⟨_, _, _, _, _, _, false, _, F22, sc__law_like, rfl, rfl, PL22, ck__law_like, binds0 (K := K) B22 rfl rfl, fun z => by cases z⟩
    case d24 => exact ⟨_, _, _, _, _, _, false, _, F24, sc__law_kind, rfl, rfl, PL24, ck__law_kind, binds0 (K := K) B24 rfl rfl, fun z => by cases z⟩
    case d25 => exact ⟨_, _, _, _, _, _, false, _, F25, sc__law_team, rfl, rfl, PL25, ck__law_team, binds0 (K := K) B25 rfl rfl, fun z => by cases z⟩
    case d26 => exact ⟨_, _, _, _, _, _, false, _, F26, sc__law_opening, rfl, rfl, PL26, ck__law_opening, binds0 (K := K) B26 rfl rfl, fun z => by cases z⟩
    case d27 => exact ⟨_, _, _, _, _, _, false, _, F27, sc__law_moves, rfl, rfl, PL27, ck__law_moves, binds0 (K := K) B27 rfl rfl, fun z => by cases z⟩
    case d28 => exact ⟨_, _, _, _, _, _, false, _, F28, sc__law_led, rfl, rfl, PL28, ck__law_led, binds0 (K := K) B28 rfl rfl, fun z => by cases z⟩
    case d29 => exact ⟨_, _, _, _, _, _, false, _, F29, sc__law_any_there, rfl, rfl, PL29, ck__law_any_there, binds0 (K := K) B29 rfl rfl, fun z => by cases z⟩
    case d30 => exact ⟨_, _, _, _, _, _, true, _, F30, sc__law_moves_told, rfl, rfl, PL30, ck__law_moves_told, binds0 (K := K) B30 rfl rfl, fun _ => LB30⟩
    case d31 => exact ⟨_, _, _, _, _, _, false, _, F31, sc__law_odd_theres, rfl, rfl, PL31, ck__law_odd_theres, binds0 (K := K) B31 rfl rfl, fun z => by cases z⟩
    case d32 => exact ⟨_, _, _, _, _, _, true, _, F32, sc_law, rfl, rfl, PL32, ck_law, binds0 (K := K) B32 rfl rfl, fun _ => LB32⟩
  exact law_end (g := ⟨K, gaOf mg, [(pA30, "_law_moves_told.<locals>.<lambda>"), (pA32, "law.<locals>.<lambda>")]⟩) (tb := tbl) (wf := 1000) (d := f_law) rfl rfl (fn_step (b := true) T (fn_ok T (fun f d h => D (f, d) (look_mem h)) 15) tbl_law F32 sc_law rfl rfl ck_law (fun _ => LB32)) fin
end K08
open PySem PySem.W PyProof.Rows
set_option maxHeartbeats 0 in
theorem PySem.Challenge.cw_fairneed_k08_whole_situations_moves_and_holds : PySem.Challenge.rw_fairneed_k08_whole_situations_moves_and.Holds := by
  w_on; o_law; k_head; (case hw => w_witness2)
  refine LamX.walk_ofTs (l := PySem.Challenge.rw_fairneed_k08_whole_situations_moves_and) (n := 63) (k := 67) (x := "script") (CX := fun w => L2.CX PySem.Challenge.rw_fairneed_k08_whole_situations_moves_and.prog w) rfl (by decide) rfl ⟨rfl, by decide, by decide⟩ (fun w h Y => PySem.W.km_in_of Y) ?F (fun _ _ _ _ _ h => Fy.cx_false h)
  case F =>
    intro w mg fa h Y KX G hmg
    have tabs := PySem.W.km_tabs_of Y
    refine' Fy.lawAt_of (K08.all_mk KX G hmg ?a0 ?l0 ?c0 ?k0 ?a1 ?l1 ?c1 ?k1 ?d1 ?e1 ?a2 ?l2 ?c2 ?k2 ?a3 ?l3 ?c3 ?k3 ?a4 ?l4 ?c4 ?k4 ?a5 ?l5 ?c5 ?k5 ?a6 ?l6 ?c6 ?k6 ?a7 ?mk7 ?mi7 ?mf7 ?mq7 ?mg7 ?mh7 ?mo7 ?ms7 ?mn7_0 ?mn7_1 ?mn7_2 ?mn7_3 ?mn7_4 ?mn7_5 ?mn7_6 ?l7 ?c7 ?k7 ?a8 ?l8 ?c8 ?k8 ?a9 ?l9 ?c9 ?k9 ?a10 ?l10 ?c10 ?k10 ?a11 ?l11 ?c11 ?k11 ?a12 ?l12 ?c12 ?k12 ?a13 ?l13 ?c13 ?k13 ?a14 ?l14 ?c14 ?k14 ?a15 ?l15 ?c15 ?k15 ?a16 ?l16 ?c16 ?k16 ?a17 ?l17 ?c17 ?k17 ?a18 ?l18 ?c18 ?k18 ?a19 ?l19 ?c19 ?k19 ?a20 ?l20 ?c20 ?k20 ?a21 ?l21 ?c21 ?k21 ?a22 ?l22 ?c22 ?k22 ?a23 ?l23 ?c23 ?k23 ?a24 ?l24 ?c24 ?k24 ?a25 ?l25 ?c25 ?k25 ?a26 ?l26 ?c26 ?k26 ?a27 ?l27 ?c27 ?k27 ?a28 ?l28 ?c28 ?k28 ?a29 ?l29 ?c29 ?k29 ?a30 ?l30 ?c30 ?k30 ?t30 ?u30 ?a31 ?l31 ?c31 ?k31 ?a32 ?l32 ?c32 ?k32 ?t32 ?u32 ?pn30_32 ?pn32_30 ?z0 ?z1 ?z2 ?z3 ?z4 ?z5 ?z6 ?z7 ?z8 ?z9 ?z10 ?z11 ?z12 ?z13 ?z14 ?z15 ?z16 ?z17 ?z18 ?z19 ?q0 ?q1 ?q2 ?q3 ?q4 ?q4q ?x0a ?x0i ?x0g ?x0h ?x0c ?x0d ?x0v ?x0p ?x0o ?x0s ?x0e ?x0y ?x0k ?x0t ?x0n ?x0u ?x0b ?x0m ?x0f ?x0w ?x0G ?x0H ?x0D ?x0E ?x1a ?x1i ?x1g ?x1h ?x1c ?x1d ?x1v ?x1p ?x1o ?x1s ?x1e ?x1y ?x1k ?x1t ?x1n ?x1u ?x1b ?x1m ?x1f ?x1w ?x1G ?x1H ?x1D ?x1E ?x1Fa ?x1FE ?x1FK ?x1F1 ?x1F2 ?x1F3 ?x1F4 K08.fin ?hT)
    (case a0 => k_is)
    (case l0 => k_is)
    (case c0 => k_is)
    (case k0 => k_is)
    (case a1 => k_is)
    (case l1 => k_is)
    (case c1 => k_is)
    (case k1 => k_is)
    (case d1 => k_is)
    (case e1 => rfl)
    (case a2 => k_is)
    (case l2 => k_is)
    (case c2 => k_is)
    (case k2 => k_is)
    (case a3 => k_is)
    (case l3 => k_is)
    (case c3 => k_is)
    (case k3 => k_is)
    (case a4 => k_is)
    (case l4 => k_is)
    (case c4 => k_is)
    (case k4 => k_is)
    (case a5 => k_is)
    (case l5 => k_is)
    (case c5 => k_is)
    (case k5 => k_is)
    (case a6 => k_is)
    (case l6 => k_is)
    (case c6 => k_is)
    (case k6 => k_is)
    (case a7 => k_is)
    (case mk7 => k_is)
    (case mi7 => k_is)
    (case mf7 => k_is)
    (case mq7 => k_is)
    (case mg7 => k_is)
    (case mh7 => k_is)
    (case mo7 => k_is)
    (case ms7 => k_is)
    (case mn7_0 => k_is)
    (case mn7_1 => k_is)
    (case mn7_2 => k_is)
    (case mn7_3 => k_is)
    (case mn7_4 => k_is)
    (case mn7_5 => k_is)
    (case mn7_6 => k_is)
    (case l7 => k_is)
    (case c7 => k_is)
    (case k7 => k_is)
    (case a8 => k_is)
    (case l8 => k_is)
    (case c8 => k_is)
    (case k8 => k_is)
    (case a9 => k_is)
    (case l9 => k_is)
    (case c9 => k_is)
    (case k9 => k_is)
    (case a10 => k_is)
    (case l10 => k_is)
    (case c10 => k_is)
    (case k10 => k_is)
    (case a11 => k_is)
    (case l11 => k_is)
    (case c11 => k_is)
    (case k11 => k_is)
    (case a12 => k_is)
    (case l12 => k_is)
    (case c12 => k_is)
    (case k12 => k_is)
    (case a13 => k_is)
    (case l13 => k_is)
    (case c13 => k_is)
    (case k13 => k_is)
    (case a14 => k_is)
    (case l14 => k_is)
    (case c14 => k_is)
    (case k14 => k_is)
    (case a15 => k_is)
    (case l15 => k_is)
    (case c15 => k_is)
    (case k15 => k_is)
    (case a16 => k_is)
    (case l16 => k_is)
    (case c16 => k_is)
    (case k16 => k_is)
    (case a17 => k_is)
    (case l17 => k_is)
    (case c17 => k_is)
    (case k17 => k_is)
    (case a18 => k_is)
    (case l18 => k_is)
    (case c18 => k_is)
    (case k18 => k_is)
    (case a19 => k_is)
    (case l19 => k_is)
    (case c19 => k_is)
    (case k19 => k_is)
    (case a20 => k_is)
    (case l20 => k_is)
    (case c20 => k_is)
    (case k20 => k_is)
    (case a21 => k_is)
    (case l21 => k_is)
    (case c21 => k_is)
    (case k21 => k_is)
    (case a22 => k_is)
    (case l22 => k_is)
    (case c22 => k_is)
    (case k22 => k_is)
    (case a23 => k_is)
    (case l23 => k_is)
    (case c23 => k_is)
    (case k23 => k_is)
    (case a24 => k_is)
    (case l24 => k_is)
    (case c24 => k_is)
    (case k24 => k_is)
    (case a25 => k_is)
    (case l25 => k_is)
    (case c25 => k_is)
    (case k25 => k_is)
    (case a26 => k_is)
    (case l26 => k_is)
    (case c26 => k_is)
    (case k26 => k_is)
    (case a27 => k_is)
    (case l27 => k_is)
    (case c27 => k_is)
    (case k27 => k_is)
    (case a28 => k_is)
    (case l28 => k_is)
    (case c28 => k_is)
    (case k28 => k_is)
    (case a29 => k_is)
    (case l29 => k_is)
    (case c29 => k_is)
    (case k29 => k_is)
    (case a30 => k_is)
    (case l30 => k_is)
    (case c30 => k_is)
    (case k30 => k_is)
    (case t30 => first | k_is | decide +kernel | kernel_rfl)
    (case u30 => first | k_is | decide +kernel | kernel_rfl)
    (case a31 => k_is)
    (case l31 => k_is)
    (case c31 => k_is)
    (case k31 => k_is)
    (case a32 => k_is)
    (case l32 => k_is)
    (case c32 => k_is)
    (case k32 => k_is)
    (case t32 => first | k_is | decide +kernel | kernel_rfl)
    (case u32 => first | k_is | decide +kernel | kernel_rfl)
    (case z0 => k_is)
    (case z1 => k_is)
    (case z2 => k_is)
    (case z3 => k_is)
    (case z4 => k_is)
    (case z5 => k_is)
    (case z6 => k_is)
    (case z7 => k_is)
    (case z8 => k_is)
    (case z9 => k_is)
    (case z10 => k_is)
    (case z11 => k_is)
    (case z12 => k_is)
    (case z13 => k_is)
    (case z14 => k_is)
    (case z15 => k_is)
    (case z16 => k_is)
    (case z17 => k_is)
    (case z18 => k_is)
    (case z19 => k_is)
    (case q0 => k_is)
    (case q1 => k_is)
    (case q2 => k_is)
    (case q3 => k_is)
    (case q4 => k_is)
    (case q4q => k_is)
    (case x0a => k_is)
    (case x0i => k_is)
    (case x0g => k_is)
    (case x0h => k_is)
    (case x0c => k_is)
    (case x0d => k_is)
    (case x0v => rfl)
    (case x0p => first | k_is | decide +kernel | kernel_rfl)
    (case x0o => exact ⟨_, _, _, _, _, _, _, _, _, _, _, _, _, _, _, by k_is, by decide +kernel⟩)
    (case x0s => k_is)
    (case x0e => k_is)
    (case x0y => k_is)
    (case x0k => k_is)
    (case x0t => k_is)
    (case x0n => k_is)
    (case x0u => first | k_is | decide +kernel | kernel_rfl)
    (case x0b => k_is)
    (case x0m => k_is)
    (case x0f => k_is)
    (case x0w => first | k_is | decide +kernel | kernel_rfl)
    (case x0G => k_is)
    (case x0H => k_is)
    (case x0D => k_is)
    (case x0E => first | k_is | decide +kernel | kernel_rfl)
    (case x1a => k_is)
    (case x1i => k_is)
    (case x1g => k_is)
    (case x1h => k_is)
    (case x1c => k_is)
    (case x1d => k_is)
    (case x1v => rfl)
    (case x1p => first | k_is | decide +kernel | kernel_rfl)
    (case x1o => exact ⟨_, _, _, _, _, _, _, _, _, _, _, _, _, _, _, by k_is, by decide +kernel⟩)
    (case x1s => k_is)
    (case x1e => k_is)
    (case x1y => k_is)
    (case x1k => k_is)
    (case x1t => k_is)
    (case x1n => k_is)
    (case x1u => first | k_is | decide +kernel | kernel_rfl)
    (case x1b => k_is)
    (case x1m => k_is)
    (case x1f => k_is)
    (case x1w => first | k_is | decide +kernel | kernel_rfl)
    (case x1G => k_is)
    (case x1H => k_is)
    (case x1D => k_is)
    (case x1E => first | k_is | decide +kernel | kernel_rfl)
    (case x1Fa => k_is)
    (case x1FE => first | k_is | decide +kernel | kernel_rfl)
    (case x1FK => first | k_is | decide +kernel | kernel_rfl)
    (case x1F1 => k_is)
    (case x1F2 => k_is)
    (case x1F3 => k_is)
    (case x1F4 => k_is)
    (case hT => exact ⟨trivial, tabs _ (List.Mem.head _), tabs _ (List.Mem.tail _ (List.Mem.head _))⟩)
    (case pn30_32 => decide)
    (case pn32_30 => decide)
end
