import PyProof.Rows.All
import Wide.All
import OpenK.AllK
import Wide.FinOn
import HandS.ForMost
import HandS.Zip
import HandS.IsInst
import HandS.Deep
import HandS.Wide
import HandS.TupLe
import HandS.TupAny
import HandS.Flow
import HandS.Exc
import HandS.CallSlots
import HandS.WordsExc
import PySem.Challenge.RW_fairneed_k21_whole_rows_that_read_well
section
set_option Elab.async false
set_option linter.all false
set_option maxRecDepth 100000
/-! Fy1: a small evaluator over plain data for the part of Python that the program uses. No model in sight. -/
namespace Fy
open PySem (Str PyData)

/-- plain data; lists, dicts and instances stand in a store, told by number -/
inductive D where
  | non | bl (b : Bool) | int (i : Int) | str (x : Str) | tup (xs : List D) | fro (xs : List D) | loc (n : Nat) | ty (n : String) | gl (x : Str)

mutual
def D.beq : D → D → Bool
  | .non, .non => true
  | .bl a, .bl b => a == b
  | .int a, .int b => decide (a = b)
  | .str a, .str b => decide (a = b)
  | .tup a, .tup b => D.beqs a b
  | .fro a, .fro b => D.beqs a b
  | .loc a, .loc b => decide (a = b)
  | .ty a, .ty b => decide (a = b)
  | .gl a, .gl b => decide (a = b)
  | _, _ => false
def D.beqs : List D → List D → Bool
  | [], [] => true
  | x :: xs, y :: ys => D.beq x y && D.beqs xs ys
  | _, _ => false
end
mutual
theorem D.beq_eq : ∀ a b : D, D.beq a b = true → a = b
  | .non, b, h => by cases b <;> first | rfl | simp [D.beq] at h
  | .bl a, b, h => by cases b <;> simp_all [D.beq]
  | .int a, b, h => by cases b <;> simp_all [D.beq]
  | .str a, b, h => by cases b <;> simp_all [D.beq]
  | .tup a, b, h => by
    cases b with
    | tup b => exact congrArg D.tup (D.beqs_eq a b (by simpa [D.beq] using h))
    | _ => simp [D.beq] at h
  | .fro a, b, h => by
    cases b with
    | fro b => exact congrArg D.fro (D.beqs_eq a b (by simpa [D.beq] using h))
    | _ => simp [D.beq] at h
  | .loc a, b, h => by cases b <;> simp_all [D.beq]
  | .ty a, b, h => by cases b <;> simp_all [D.beq]
  | .gl a, b, h => by cases b <;> simp_all [D.beq]
theorem D.beqs_eq : ∀ a b : List D, D.beqs a b = true → a = b
  | [], b, h => by cases b <;> first | rfl | simp [D.beqs] at h
  | x :: xs, b, h => by
    cases b with
    | nil => simp [D.beqs] at h
    | cons y ys =>
      have h' : D.beq x y = true ∧ D.beqs xs ys = true := by simpa [D.beqs] using h
      rw [D.beq_eq x y h'.1, D.beqs_eq xs ys h'.2]
end
mutual
theorem D.beq_refl : ∀ a : D, D.beq a a = true
  | .non => by simp [D.beq]
  | .bl a => by simp [D.beq]
  | .int a => by simp [D.beq]
  | .str a => by simp [D.beq]
  | .tup a => by simp [D.beq, D.beqs_refl a]
  | .fro a => by simp [D.beq, D.beqs_refl a]
  | .loc a => by simp [D.beq]
  | .ty a => by simp [D.beq]
  | .gl a => by simp [D.beq]
theorem D.beqs_refl : ∀ a : List D, D.beqs a a = true
  | [] => by simp [D.beqs]
  | x :: xs => by simp [D.beqs, D.beq_refl x, D.beqs_refl xs]
end
instance : DecidableEq D := fun a b => decidable_of_iff (D.beq a b = true) ⟨D.beq_eq a b, fun h => h ▸ D.beq_refl a⟩

/-- what stands in the store: a list, a list that nobody may change, a dict, an instance of an own class -/
inductive O where
  | lst (xs : List D) | dic (kvs : List (D × D)) | ins (c : Str) (fs : List (Str × D))
  deriving DecidableEq
abbrev Sto := List O
abbrev Env := List (Option D)
/-- a value: data, or a list that nobody else holds -/
inductive T where
  | v (d : D) | l (xs : List D)
/-- an exception of an own class: its class, what it keeps -/
structure Xc where
  cls : Str
  val : D
inductive R (α : Type) where
  | ok (a : α) (s : Sto) | ex (x : Xc) (s : Sto) | bad
def R.bind {α β : Type} : R α → (α → Sto → R β) → R β
  | .ok a s, f => f a s
  | .ex x s, _ => .ex x s
  | .bad, _ => .bad
@[simp] theorem R.bind_ok {α β : Type} (a : α) (s : Sto) (f : α → Sto → R β) : (R.ok a s).bind f = f a s := rfl
@[simp] theorem R.bind_ex {α β : Type} (x : Xc) (s : Sto) (f : α → Sto → R β) : (R.ex x s : R α).bind f = .ex x s := rfl
@[simp] theorem R.bind_bad {α β : Type} (f : α → Sto → R β) : (R.bad : R α).bind f = .bad := rfl
def ofO {α : Type} : Option α → Sto → R α
  | some a, s => .ok a s
  | none, _ => .bad
@[simp] theorem ofO_some {α : Type} (a : α) (s : Sto) : ofO (some a) s = .ok a s := rfl
@[simp] theorem ofO_none {α : Type} (s : Sto) : ofO (none : Option α) s = .bad := rfl

def LIM : Nat := 16777216
/-- the value, kept: a list goes into the store -/
def T.keep : T → Sto → D × Sto
  | .v d, s => (d, s)
  | .l xs, s => (.loc s.length, s ++ [.lst xs])
def keepR (t : T) (s : Sto) : R D := .ok (t.keep s).1 (t.keep s).2
@[simp] theorem keepR_v (d : D) (s : Sto) : keepR (.v d) s = .ok d s := rfl
@[simp] theorem keepR_l (xs : List D) (s : Sto) : keepR (.l xs) s = .ok (.loc s.length) (s ++ [.lst xs]) := rfl

def lstAt (n : Nat) (s : Sto) : Option (List D) :=
  match s[n]? with
  | some (.lst xs) => some xs
  | _ => none
/-- the items of a list -/
def lstOf : T → Sto → Option (List D)
  | .l xs, _ => some xs
  | .v (.fro xs), _ => some xs
  | .v (.loc n), s => lstAt n s
  | _, _ => none
/-- the items of a list that may be changed -/
def mlstOf : T → Sto → Option (List D)
  | .l xs, _ => some xs
  | .v (.loc n), s => (match s[n]? with | some (.lst xs) => some xs | _ => none)
  | _, _ => none
/-- the items of a list or tuple -/
def seqOf : T → Sto → Option (List D)
  | .v (.tup xs), _ => some xs
  | t, s => lstOf t s

/-! ### truth, equality, order -/
def truth : T → Sto → Option Bool
  | .v .non, _ => some false
  | .v (.bl b), _ => some b
  | .v (.int i), _ => some (i != 0)
  | .v (.str x), _ => if x.length ≤ LIM then some ((x.length : Int) != 0) else none
  | t, s => (seqOf t s).map fun xs => !xs.isEmpty
mutual
def D.py : D → Option PyData
  | .non => some .none
  | .bl b => some (.bool b)
  | .int i => some (.int i)
  | .str x => some (.str x)
  | .tup xs => (D.pys xs).map .tuple
  | _ => none
def D.pys : List D → Option (List PyData)
  | [] => some []
  | x :: xs => (D.py x).bind fun d => (D.pys xs).map fun ds => d :: ds
end
def pyOf : T → Sto → Option PyData
  | .l xs, _ => (D.pys xs).map .list
  | .v (.loc n), s => (lstAt n s).bind fun xs => (D.pys xs).map .list
  | .v d, _ => D.py d
/-- ==, where both are flat, or both are nested data -/
def eqT (x y : T) (s : Sto) : Option Bool :=
  match x, y with
  | .v .non, .v .non => some true
  | .v (.bl a), .v (.bl b) => some (a == b)
  | .v (.int a), .v (.int b) => some (decide (a = b))
  | .v (.str a), .v (.str b) => some (decide (a = b))
  | x, y => (pyOf x s).bind fun d => (pyOf y s).bind fun e => if PySem.SeqAt.shaped d && PySem.SeqAt.shaped e then some (PyData.eqv d e) else none
def intsD : List D → Option (List Int)
  | [] => some []
  | .int i :: xs => (intsD xs).map fun is => i :: is
  | _ => none
def ordI (op : Nat) (a b : Int) : Bool :=
  match op with
  | 0 => decide (a < b)
  | 1 => decide (a ≤ b)
  | 2 => decide (b < a)
  | _ => decide (b ≤ a)
/-- rows of intsD, compared at the first place where they differ -/
def ordL (op : Nat) : List Int → List Int → Bool
  | [], [] => ordI op 0 0
  | [], _ :: _ => ordI op 0 1
  | _ :: _, [] => ordI op 1 0
  | x :: xs, y :: ys => if x = y then ordL op xs ys else ordI op x y
/-- <, <=, >, >= of two intsD, or of two tuples of intsD -/
def ordT (op : Nat) (x y : T) : Option Bool :=
  match x, y with
  | .v (.int a), .v (.int b) => some (ordI op a b)
  | .v (.tup a), .v (.tup b) => (intsD a).bind fun a => (intsD b).map fun b => ordL op a b
  | _, _ => none
def flat : D → Bool
  | .non => true
  | .bl _ => true
  | .int _ => true
  | .str _ => true
  | _ => false
/-- == of flat values -/
def eqF : D → D → Bool
  | .non, .non => true
  | .bl a, .bl b => a == b
  | .bl a, .int b => (if a then 1 else 0) == b
  | .int a, .bl b => a == (if b then 1 else 0)
  | .int a, .int b => a == b
  | .str a, .str b => a == b
  | _, _ => false
/-- x in a list or tuple: all flat, or all nested data -/
def inT (x y : T) (s : Sto) : Option Bool :=
  match x with
  | .v d => (seqOf y s).bind fun xs =>
    if flat d && xs.all flat then some (xs.any fun z => eqF z d)
    else match y with
      | .v (.tup _) => none
      | _ => (D.py d).bind fun d => (D.pys xs).bind fun ds => if PySem.SeqAt.shaped d && PySem.SeqAt.shaped (.list ds) then some (ds.any fun z => PyData.eqv z d) else none
  | _ => none
inductive Cop where
  | eq | ne | lt | le | gt | ge | is | isnot | inn | notin
/-- is, with None, True or False at the right -/
def isT (x y : T) : Option Bool :=
  match x, y with
  | .v d, .v .non => some (match d with | .non => true | _ => false)
  | .l _, .v .non => some false
  | .v (.bl a), .v (.bl b) => some (a == b)
  | _, _ => none
def cmpT (op : Cop) (x y : T) (s : Sto) : Option Bool :=
  match op with
  | .eq => eqT x y s
  | .ne => (eqT x y s).map (!·)
  | .lt => ordT 0 x y
  | .le => ordT 1 x y
  | .gt => ordT 2 x y
  | .ge => ordT 3 x y
  | .is => isT x y
  | .isnot => (isT x y).map (!·)
  | .inn => inT x y s
  | .notin => (inT x y s).map (!·)

/-! ### operators, items, slices -/
inductive Bop where
  | add | sub | mul | fdiv | mod | pow
/-- the sizes that are served -/
def mulOk (a b : Int) : Bool := decide (a.natAbs.log2 + b.natAbs.log2 < 1000000)
def divOk (b : Int) : Bool := decide (0 < b) && decide (b.natAbs.log2 < 9000)
theorem log_lt {i : Int} {k : Nat} (h : i.natAbs < 2 ^ k) (h0 : 0 < k) : i.natAbs.log2 < k := PySem.Flt.log2_lt_of h0 h
theorem mulOk_of {a b : Int} (ha : a.natAbs < 2 ^ 240) (hb : b.natAbs < 2 ^ 240) : mulOk a b = true := by
  have h1 := log_lt ha (by decide)
  have h2 := log_lt hb (by decide)
  exact decide_eq_true (by omega)
theorem divOk_of {b : Int} (h : 0 < b) (hb : b.natAbs < 2 ^ 240) : divOk b = true := by
  have h2 := log_lt hb (by decide)
  unfold divOk
  rw [decide_eq_true h, decide_eq_true (by omega)]
  rfl
def binT (op : Bop) (x y : T) (s : Sto) : Option T :=
  match op, x, y with
  | .add, .v (.int a), .v (.int b) => some (.v (.int (a + b)))
  | .sub, .v (.int a), .v (.int b) => some (.v (.int (a - b)))
  | .mul, .v (.int a), .v (.int b) => if mulOk a b then some (.v (.int (a * b))) else none
  | .fdiv, .v (.int a), .v (.int b) => if divOk b then some (.v (.int (a / b))) else none
  | .mod, .v (.int a), .v (.int b) => if 0 < b then some (.v (.int (a % b))) else none
  | .pow, .v (.int a), .v (.int b) => if 0 ≤ b ∧ b ≤ 1000000 ∧ a.natAbs < 2 ^ 64 then some (.v (.int (a ^ b.toNat))) else none
  | .add, .v (.str a), .v (.str b) => if a.length + b.length ≤ LIM then some (.v (.str (a ++ b))) else none
  | .add, .v (.tup a), .v (.tup b) => if a.length + b.length ≤ LIM then some (.v (.tup (a ++ b))) else none
  | .add, x, y => (mlstOf x s).bind fun a => (mlstOf y s).bind fun b => if a.length + b.length ≤ LIM then some (.l (a ++ b)) else none
  | _, _, _ => none
def idxT (x y : T) (s : Sto) : Option T :=
  match y with
  | .v (.int i) => ((seqOf x s).bind fun xs => L2.atI xs i).map .v
  | _ => none
def cutD (xs : List D) (lo hi : Option Int) : List D := (xs.drop (HT.sIx xs.length 0 lo)).take (HT.sIx xs.length xs.length hi - HT.sIx xs.length 0 lo)
def slcT (x : T) (lo hi : Option Int) (s : Sto) : Option T :=
  match x with
  | .v (.tup xs) => some (.v (.tup (cutD xs lo hi)))
  | x => (lstOf x s).map fun xs => .l (cutD xs lo hi)

/-! ### built-ins -/
inductive Bi where
  | len | int | abs | isinst | all | any | tuple | list | min | max | sum | sorted
def bools : List D → Option (List Bool)
  | [] => some []
  | .bl b :: xs => (bools xs).map fun bs => b :: bs
  | _ => none
/-- the built-in class of a value -/
def tyOf : T → Sto → Option String
  | .v .non, _ => some "NoneType"
  | .v (.bl _), _ => some "bool"
  | .v (.int _), _ => some "int"
  | .v (.str _), _ => some "str"
  | .v (.tup _), _ => some "tuple"
  | .v (.fro _), _ => some "list"
  | .l _, _ => some "list"
  | .v (.loc n), s => (lstAt n s).map fun _ => "list"
  | _, _ => none
def isSub (t c : String) : Bool := t == c || (t == "bool" && c == "int")
def kinds : List String := ["int", "bool", "str", "tuple", "list"]
def biT (f : Bi) (xs : List T) (s : Sto) : Option T :=
  match f, xs with
  | .len, [x] => (match x with
    | .v (.str z) => if z.length ≤ LIM then some (.v (.int z.length)) else none
    | x => (seqOf x s).map fun xs => .v (.int xs.length))
  | .int, [.v (.int i)] => some (.v (.int i))
  | .int, [.v (.bl b)] => some (.v (.int (if b then 1 else 0)))
  | .abs, [.v (.int i)] => some (.v (.int (if i < 0 then -i else i)))
  | .isinst, [x, .v (.ty c)] => (tyOf x s).bind fun t => if c ∈ kinds then some (.v (.bl (isSub t c))) else none
  | .all, [x] => ((lstOf x s).bind bools).map fun bs => .v (.bl (bs.all id))
  | .any, [x] => ((lstOf x s).bind bools).map fun bs => .v (.bl (bs.any id))
  | .tuple, [x] => (seqOf x s).map fun xs => .v (.tup xs)
  | .list, [x] => (seqOf x s).map fun xs => .l xs
  | .min, [.v (.int a), .v (.int b)] => some (.v (.int (if b < a then b else a)))
  | .max, [.v (.int a), .v (.int b)] => some (.v (.int (if b > a then b else a)))
  | .sum, [x] => ((lstOf x s).bind intsD).map fun is => .v (.int is.sum)
  | _, _ => none

/-! ### the text -/
mutual
inductive E where
  | var (i : Nat) | int (n : Int) | bl (b : Bool) | non | str (x : Str)
  | tyn (x : Str) (T : String)
  | bin (op : Bop) (a b : E) | neg (a : E) | cmp (op : Cop) (a b : E) | chain (op op' : Cop) (a b c : E)
  | and2 (a b : E) | or2 (a b : E) | not1 (a : E) | ite (c a b : E)
  | tup (es : Es) | lst (es : Es) | idx (a i : E) | slc (a : E) (lo hi : Eo)
  | call (f : Str) (es : Es) | bi (f : Bi) (es : Es)
  | lc (own : List (Str × Nat)) (tg : Tg) (it : It) (c : Eo) (e : E)
inductive Es where
  | nil | cons (e : E) (es : Es)
inductive Eo where
  | none | some (e : E)
inductive It where
  | seq (e : E) | rng (es : Es) | zip (a b : E) | enum (a : E)
inductive Tg where
  | nm (i : Nat) | tp (ts : Tgs)
inductive Tgs where
  | nil | cons (t : Tg) (ts : Tgs)
end
mutual
inductive S where
  | asg (t : Tg) (e : E) | asgLc (i : Nat) (own : List (Str × Nat)) (tg : Tg) (it : It) (c : Eo) (e : E) | par2 (i j : Nat) (a b : E) | aug (i : Nat) (op : Bop) (e : E) | put (o i e : E)
  | ite (c : E) (a b : Ss) | for_ (t : Tg) (it : It) (b : Ss) | while_ (c : E) (b : Ss)
  | ret (e : E) | ret0 | expr (e : E) | brk | cont | pass
inductive Ss where
  | nil | cons (s : S) (r : Ss)
end

/-! ### targets -/
mutual
def bindT : Tg → D → Env → Option Env
  | .nm i, d, ρ => some (ρ.set i (some d))
  | .tp ts, .tup xs, ρ => if xs.length = Tgs.len ts then bindTs ts xs ρ else none
  | .tp _, _, _ => none
def bindTs : Tgs → List D → Env → Option Env
  | .nil, [], ρ => some ρ
  | .cons t ts, x :: xs, ρ => (bindT t x ρ).bind fun ρ => bindTs ts xs ρ
  | _, _, _ => none
def Tgs.len : Tgs → Nat
  | .nil => 0
  | .cons _ ts => ts.len + 1
end
def wipeE (ρ : Env) : List Nat → Env
  | [] => ρ
  | v :: vs => (wipeE ρ vs).set v none

mutual
def Tg.slots : Tg → List Nat
  | .nm i => [i]
  | .tp ts => ts.slots
def Tgs.slots : Tgs → List Nat
  | .nil => []
  | .cons t ts => t.slots ++ ts.slots
end

/-! ### what is walked: the items, and the lists of the store that must stand still -/
structure Items where
  xs : List D
  src : List (Nat × List D)
def stands (src : List (Nat × List D)) (s : Sto) : Bool := src.all fun p => decide (lstAt p.1 s = some p.2)
def itemsOf (t : T) (s : Sto) : Option Items :=
  match t with
  | .v (.tup xs) => some ⟨xs, []⟩
  | .v (.fro xs) => some ⟨xs, []⟩
  | .l xs => some ⟨xs, []⟩
  | .v (.loc n) => (lstAt n s).map fun xs => ⟨xs, [(n, xs)]⟩
  | _ => none
def rangeD (lo hi : Int) : Option Items :=
  if -(2 ^ 62) ≤ lo ∧ lo < 2 ^ 62 ∧ -(2 ^ 62) ≤ hi ∧ hi < 2 ^ 62 then some ⟨(List.range (hi - lo).toNat).map fun i => D.int (lo + (i : Nat)), []⟩ else none
def rangeOf : List D → Option Items
  | [.int j] => rangeD 0 j
  | [.int i, .int j] => rangeD i j
  | _ => none
/-- zip of two tuples or of two lists -/
def zipOf (a b : T) (s : Sto) : Option Items :=
  match a, b with
  | .v (.tup xs), .v (.tup ys) => some ⟨(xs.zip ys).map fun p => .tup [p.1, p.2], []⟩
  | .v (.tup _), _ => none
  | _, .v (.tup _) => none
  | a, b => (itemsOf a s).bind fun p => (itemsOf b s).map fun q => ⟨(p.xs.zip q.xs).map fun p => .tup [p.1, p.2], p.src ++ q.src⟩

/-- enumerate of a list -/
def enumOf (t : T) (s : Sto) : Option Items :=
  match t with
  | .v (.tup _) => none
  | t => (itemsOf t s).map fun I => ⟨I.xs.zipIdx.map fun p => .tup [.int (p.2 : Nat), p.1], I.src⟩

/-! ### the evaluator -/
abbrev CallF := Str → List D → Sto → R T
def lcLoop (f : D → Sto → R (Option D)) (src : List (Nat × List D)) : List D → List D → Sto → R T
  | [], acc, s => if stands src s then .ok (.l acc) s else .bad
  | x :: xs, acc, s => if stands src s then
      match f x s with
      | .ok (some d) s' => if acc.length < LIM then lcLoop f src xs (acc ++ [d]) s' else .bad
      | .ok none s' => lcLoop f src xs acc s'
      | _ => .bad
    else .bad
/-- a turn of a comprehension -/
def lcF (tg : Tg) (vs : List Nat) (ρ : Env) (fc : Env → Sto → R Bool) (fe : Env → Sto → R T) : D → Sto → R (Option D) := fun x s =>
  match bindT tg x (wipeE ρ vs) with
  | none => .bad
  | some ρ' => (fc ρ' s).bind fun b s => if b then (fe ρ' s).bind fun t s => (keepR t s).bind fun d s => .ok (some d) s else .ok none s
mutual
def evE (cf : CallF) : E → Env → Sto → R T
  | .var i, ρ, s => match ρ[i]? with | some (some d) => .ok (.v d) s | _ => .bad
  | .int n, _, s => .ok (.v (.int n)) s
  | .bl b, _, s => .ok (.v (.bl b)) s
  | .non, _, s => .ok (.v .non) s
  | .str x, _, s => .ok (.v (.str x)) s
  | .tyn _ t, _, s => .ok (.v (.ty t)) s
  | .bin op a b, ρ, s => (evE cf a ρ s).bind fun x s => (evE cf b ρ s).bind fun y s => ofO (binT op x y s) s
  | .neg a, ρ, s => (evE cf a ρ s).bind fun x s => match x with | .v (.int i) => .ok (.v (.int (-i))) s | _ => .bad
  | .cmp op a b, ρ, s => (evE cf a ρ s).bind fun x s => (evE cf b ρ s).bind fun y s => ofO ((cmpT op x y s).map fun b => .v (.bl b)) s
  | .chain op op' a b c, ρ, s => (evE cf a ρ s).bind fun x s => (evE cf b ρ s).bind fun y s =>
      match cmpT op x y s with
      | some true => (evE cf c ρ s).bind fun z s => ofO ((cmpT op' y z s).map fun b => .v (.bl b)) s
      | some false => .ok (.v (.bl false)) s
      | none => .bad
  | .and2 a b, ρ, s => (evE cf a ρ s).bind fun x s => match truth x s with | some true => evE cf b ρ s | some false => .ok x s | none => .bad
  | .or2 a b, ρ, s => (evE cf a ρ s).bind fun x s => match truth x s with | some false => evE cf b ρ s | some true => .ok x s | none => .bad
  | .not1 a, ρ, s => (evE cf a ρ s).bind fun x s => match truth x s with | some b => .ok (.v (.bl (!b))) s | none => .bad
  | .ite c a b, ρ, s => (evE cf c ρ s).bind fun x s => match truth x s with | some true => evE cf a ρ s | some false => evE cf b ρ s | none => .bad
  | .tup es, ρ, s => (evEs cf es ρ s).bind fun xs s => if xs.length ≤ LIM then .ok (.v (.tup xs)) s else .bad
  | .lst es, ρ, s => (evEs cf es ρ s).bind fun xs s => if xs.length ≤ LIM then .ok (.l xs) s else .bad
  | .idx a i, ρ, s => (evE cf a ρ s).bind fun x s => (evE cf i ρ s).bind fun y s => ofO (idxT x y s) s
  | .slc a lo hi, ρ, s => (evE cf a ρ s).bind fun x s => (evEo cf lo ρ s).bind fun lo s => (evEo cf hi ρ s).bind fun hi s => ofO (slcT x lo hi s) s
  | .call f es, ρ, s => (evEs cf es ρ s).bind fun xs s => cf f xs s
  | .bi f es, ρ, s => (evTs cf es ρ s).bind fun xs s => ofO (biT f xs s) s
  | .lc own tg it c e, ρ, s => (evIt cf it ρ s).bind fun I s => lcLoop (lcF tg (own.map (·.2)) ρ (evC cf c) (evE cf e)) I.src I.xs [] s
def evEs (cf : CallF) : Es → Env → Sto → R (List D)
  | .nil, _, s => .ok [] s
  | .cons e es, ρ, s => (evE cf e ρ s).bind fun t s => (keepR t s).bind fun d s => (evEs cf es ρ s).bind fun ds s => .ok (d :: ds) s
/-- arguments of a built-in: their lists are not kept -/
def evTs (cf : CallF) : Es → Env → Sto → R (List T)
  | .nil, _, s => .ok [] s
  | .cons e es, ρ, s => (evE cf e ρ s).bind fun t s => (evTs cf es ρ s).bind fun ts s => .ok (t :: ts) s
/-- a part of a slice -/
def evEo (cf : CallF) : Eo → Env → Sto → R (Option Int)
  | .none, _, s => .ok none s
  | .some e, ρ, s => (evE cf e ρ s).bind fun t s => match t with | .v (.int i) => .ok (some i) s | _ => .bad
/-- a test that may be left out -/
def evC (cf : CallF) : Eo → Env → Sto → R Bool
  | .none, _, s => .ok true s
  | .some e, ρ, s => (evE cf e ρ s).bind fun t s => ofO (truth t s) s
def evIt (cf : CallF) : It → Env → Sto → R Items
  | .seq e, ρ, s => (evE cf e ρ s).bind fun t s => ofO (itemsOf t s) s
  | .rng es, ρ, s => (evEs cf es ρ s).bind fun xs s => ofO (rangeOf xs) s
  | .zip a b, ρ, s => (evE cf a ρ s).bind fun x s => (evE cf b ρ s).bind fun y s => ofO (zipOf x y s) s
  | .enum a, ρ, s => (evE cf a ρ s).bind fun t s => ofO (enumOf t s) s
end

/-- where a statement ends -/
inductive Fl where
  | nx (ρ : Env) (s : Sto) | rt (t : T) (s : Sto) | bk (ρ : Env) (s : Sto) | ct (ρ : Env) (s : Sto) | ex (ρ : Env) (x : Xc) (s : Sto) | bad
def R.fl {α : Type} (ρ : Env) : R α → (α → Sto → Fl) → Fl
  | .ok a s, f => f a s
  | .ex x s, _ => .ex ρ x s
  | .bad, _ => .bad
@[simp] theorem R.fl_ok {α : Type} (ρ : Env) (a : α) (s : Sto) (f : α → Sto → Fl) : (R.ok a s).fl ρ f = f a s := rfl
@[simp] theorem R.fl_ex {α : Type} (ρ : Env) (x : Xc) (s : Sto) (f : α → Sto → Fl) : (R.ex x s : R α).fl ρ f = .ex ρ x s := rfl
@[simp] theorem R.fl_bad {α : Type} (ρ : Env) (f : α → Sto → Fl) : (R.bad : R α).fl ρ f = .bad := rfl
/-- what follows where it goes on -/
def Fl.then : Fl → (Env → Sto → Fl) → Fl
  | .nx ρ s, f => f ρ s
  | x, _ => x
/-- behind a turn of a loop -/
def Fl.turn : Fl → (Env → Sto → Fl) → Fl
  | .nx ρ s, f => f ρ s
  | .ct ρ s, f => f ρ s
  | .bk ρ s, _ => .nx ρ s
  | x, _ => x
def forLoop (f : D → Env → Sto → Fl) (src : List (Nat × List D)) : List D → Env → Sto → Fl
  | [], ρ, s => if stands src s then .nx ρ s else .bad
  | x :: xs, ρ, s => if stands src s then (f x ρ s).turn fun ρ s => forLoop f src xs ρ s else .bad
/-- a turn of a for -/
def forF (t : Tg) (fb : Env → Sto → Fl) : D → Env → Sto → Fl := fun x ρ s => match bindT t x ρ with | some ρ => fb ρ s | none => .bad
theorem forF_ap (t : Tg) (fb : Env → Sto → Fl) (x : D) (ρ : Env) (s : Sto) : forF t fb x ρ s = match bindT t x ρ with | some ρ => fb ρ s | none => .bad := rfl
/-- the test of a while -/
def whC (fc : Env → Sto → R T) : Env → Sto → R Bool := fun ρ s => (fc ρ s).bind fun x s => ofO (truth x s) s
def whileLoop (c : Env → Sto → R Bool) (f : Env → Sto → Fl) : Nat → Env → Sto → Fl
  | 0, _, _ => .bad
  | n + 1, ρ, s => (c ρ s).fl ρ fun b s => if b then (f ρ s).turn fun ρ s => whileLoop c f n ρ s else .nx ρ s
def putAt (o : T) (i d : D) (s : Sto) : Option Sto :=
  match o, i with
  | .v (.loc n), .int k => (match s[n]? with
    | some (.lst xs) => (L2.ixN xs.length k).map fun j => s.set n (.lst (xs.set j d))
    | _ => none)
  | _, _ => none
def augT (op : Bop) (a : Int) (y : T) : Option Int :=
  match op, y with
  | .add, .v (.int b) => some (a + b)
  | .sub, .v (.int b) => some (a - b)
  | _, _ => none
mutual
def evS (cf : CallF) (wf : Nat) : S → Env → Sto → Fl
  | .asg t e, ρ, s => (evE cf e ρ s).fl ρ fun x s => (keepR x s).fl ρ fun d s => match bindT t d ρ with | some ρ => .nx ρ s | none => .bad
  | .asgLc i own tg it c e, ρ, s => (evE cf (.lc own tg it c e) ρ s).fl ρ fun x s => (keepR x s).fl ρ fun d s => .nx (ρ.set i (some d)) s
  | .par2 i j a b, ρ, s => (evE cf a ρ s).fl ρ fun x s => (keepR x s).fl ρ fun d s => (evE cf b ρ s).fl ρ fun y s => (keepR y s).fl ρ fun e s => .nx ((ρ.set i (some d)).set j (some e)) s
  | .aug i op e, ρ, s => match ρ[i]? with
      | some (some (.int a)) => (evE cf e ρ s).fl ρ fun y s => match augT op a y with
        | some c => .nx (ρ.set i (some (.int c))) s
        | none => .bad
      | _ => .bad
  | .put o i e, ρ, s => (evE cf e ρ s).fl ρ fun x s => (keepR x s).fl ρ fun d s => (evE cf o ρ s).fl ρ fun o s => (evE cf i ρ s).fl ρ fun y s => match y with
      | .v k => (match putAt o k d s with | some s => .nx ρ s | none => .bad)
      | _ => .bad
  | .ite c a b, ρ, s => (evE cf c ρ s).fl ρ fun x s => match truth x s with | some true => evSs cf wf a ρ s | some false => evSs cf wf b ρ s | none => .bad
  | .for_ t it b, ρ, s => (evIt cf it ρ s).fl ρ fun I s => forLoop (forF t (evSs cf wf b)) I.src I.xs ρ s
  | .while_ c b, ρ, s => whileLoop (whC (evE cf c)) (evSs cf wf b) wf ρ s
  | .ret e, ρ, s => (evE cf e ρ s).fl ρ fun x s => .rt x s
  | .ret0, _, s => .rt (.v .non) s
  | .expr e, ρ, s => (evE cf e ρ s).fl ρ fun _ s => .nx ρ s
  | .brk, ρ, s => .bk ρ s
  | .cont, ρ, s => .ct ρ s
  | .pass, ρ, s => .nx ρ s
def evSs (cf : CallF) (wf : Nat) : Ss → Env → Sto → Fl
  | .nil, ρ, s => .nx ρ s
  | .cons st r, ρ, s => (evS cf wf st ρ s).then fun ρ s => evSs cf wf r ρ s
end

/-! ### calls; what a call leaves behind goes -/
mutual
def D.under (n : Nat) : D → Bool
  | .loc m => decide (m < n)
  | .tup xs => D.unders n xs
  | .fro xs => D.unders n xs
  | _ => true
def D.unders (n : Nat) : List D → Bool
  | [] => true
  | x :: xs => D.under n x && D.unders n xs
end
def O.under (n : Nat) : O → Bool
  | .lst xs => D.unders n xs
  | .dic kvs => kvs.all fun kv => D.under n kv.1 && D.under n kv.2
  | .ins _ fs => fs.all fun f => D.under n f.2
/-- the first n of the store are kept, if nothing leads further -/
def tidy (n : Nat) (t : T) (s : Sto) : R T :=
  if (s.take n).all (O.under n) then
    match t with
    | .v (.loc m) => if m < n then .ok t (s.take n) else match s[m]? with
      | some (.lst xs) => if D.unders n xs then .ok (.l xs) (s.take n) else .ok t s
      | _ => .ok t s
    | .v d => if D.under n d then .ok t (s.take n) else .ok t s
    | .l xs => if D.unders n xs then .ok t (s.take n) else .ok t s
  else .ok t s
/-- a def: its parameters, how many names, its body -/
structure Fn where
  np : Nat
  nn : Nat
  dv : List D
  body : Ss
/-- the arguments, then the last of the defaults -/
def Fn.fill (d : Fn) (xs : List D) : List D := xs ++ d.dv.drop (d.dv.length + xs.length - d.np)
def Fl.res (n : Nat) : Fl → R T
  | .nx _ s => tidy n (.v .non) s
  | .rt t s => tidy n t s
  | .ex _ x s => if (s.take n).all (O.under n) && D.under n x.val then .ex x (s.take n) else .ex x s
  | _ => .bad
def run (tb : Str → Option Fn) (wf : Nat) : Nat → CallF
  | 0, _, _, _ => .bad
  | k + 1, f, xs, s => match tb f with
    | some d => if (d.fill xs).length = d.np then (evSs (run tb wf k) wf d.body ((d.fill xs).map some ++ List.replicate (d.nn - d.np) none) s).res s.length else .bad
    | none => .bad
end Fy
end
section
set_option Elab.async false
set_option linter.all false
set_option maxRecDepth 100000
/-! Fy2: how data and store lie in the abstract heap. -/
namespace Fy
open PySem PySem.Spec PyProof.Rows L2

/-- the written part; where the text's own defs and classes stand -/
structure Glo where
  K : PySem.W.Frag
  ga : Str → Addr

/-- a list that nobody may change: locked, or of the written part -/
def SqF (K : PySem.W.Frag) (H : Hp) (a : Addr) (xs : List V) : Prop :=
  (∃ o, H a = some (.frz o (.lst xs))) ∨ ∃ (o : Obj) (its : Array Value) (n : Nat), K.lookup a = some o ∧ o.cls = .type "list" ∧ o.dict = none ∧ o.data = .seq its n ∧ its.size ≤ sizeLine ∧ Vals xs its.toList
theorem SqF.list {K : PySem.W.Frag} {H : Hp} {a : Addr} {xs : List V} (h : SqF K H a xs) : SqL K H a xs := h.elim (fun q => .inl (.inr q)) .inr
mutual
/-- d is the value v -/
inductive RD (g : Glo) (ι : List Addr) (H : Hp) : D → V → Prop
  | non : RD g ι H .non .non
  | bl (b : Bool) : RD g ι H (.bl b) (.bl b)
  | int (i : Int) : RD g ι H (.int i) (.int i)
  | str (x : Str) : RD g ι H (.str x) (.str x)
  | ty (n : String) : RD g ι H (.ty n) (.ty n)
  | gl (x : Str) : RD g ι H (.gl x) (.ref (g.ga x))
  | tup {xs : List D} {a : Addr} {vs : List V} : SqT g.K H a vs → RDs g ι H xs vs → RD g ι H (.tup xs) (.ref a)
  | fro {xs : List D} {a : Addr} {vs : List V} : SqF g.K H a vs → RDs g ι H xs vs → RD g ι H (.fro xs) (.ref a)
  | loc {n : Nat} {a : Addr} : ι[n]? = some a → RD g ι H (.loc n) (.ref a)
inductive RDs (g : Glo) (ι : List Addr) (H : Hp) : List D → List V → Prop
  | nil : RDs g ι H [] []
  | cons {x : D} {v : V} {xs : List D} {vs : List V} : RD g ι H x v → RDs g ι H xs vs → RDs g ι H (x :: xs) (v :: vs)
end

section
variable {g : Glo} {ι : List Addr} {H : Hp}
theorem RDs.length : ∀ {xs : List D} {vs : List V}, RDs g ι H xs vs → xs.length = vs.length
  | _, _, .nil => rfl
  | _, _, .cons _ t => congrArg (· + 1) t.length
theorem RDs.get : ∀ {xs : List D} {vs : List V} {i : Nat} {d : D}, RDs g ι H xs vs → xs[i]? = some d → ∃ v, vs[i]? = some v ∧ RD g ι H d v
  | _, _, i, d, .nil, h => by simp at h
  | _, _, 0, d, .cons r _, h => by simp at h; subst h; exact ⟨_, by simp, r⟩
  | _, _, i + 1, d, .cons _ t, h => by
    obtain ⟨v, e, r⟩ := t.get (i := i) (d := d) (by simpa using h)
    exact ⟨v, by simpa using e, r⟩
theorem RDs.get' : ∀ {xs : List D} {vs : List V} {i : Nat} {v : V}, RDs g ι H xs vs → vs[i]? = some v → ∃ d, xs[i]? = some d ∧ RD g ι H d v
  | _, _, i, d, .nil, h => by simp at h
  | _, _, 0, d, .cons r _, h => by simp at h; subst h; exact ⟨_, by simp, r⟩
  | _, _, i + 1, d, .cons _ t, h => by
    obtain ⟨v, e, r⟩ := t.get' (i := i) (v := d) (by simpa using h)
    exact ⟨v, by simpa using e, r⟩
theorem RDs.append : ∀ {xs ys : List D} {vs ws : List V}, RDs g ι H xs vs → RDs g ι H ys ws → RDs g ι H (xs ++ ys) (vs ++ ws)
  | _, _, _, _, .nil, s => s
  | _, _, _, _, .cons r t, s => .cons r (t.append s)
theorem RDs.take : ∀ (n : Nat) {xs : List D} {vs : List V}, RDs g ι H xs vs → RDs g ι H (xs.take n) (vs.take n)
  | 0, _, _, _ => by simp; exact .nil
  | _ + 1, _, _, .nil => by simp; exact .nil
  | n + 1, _, _, .cons r t => by simpa using RDs.cons r (t.take n)
theorem RDs.drop : ∀ (n : Nat) {xs : List D} {vs : List V}, RDs g ι H xs vs → RDs g ι H (xs.drop n) (vs.drop n)
  | 0, _, _, h => by simpa using h
  | _ + 1, _, _, .nil => by simp; exact .nil
  | n + 1, _, _, .cons r t => by simpa using t.drop n
theorem RDs.set {d : D} {v : V} (r : RD g ι H d v) : ∀ (n : Nat) {xs : List D} {vs : List V}, RDs g ι H xs vs → RDs g ι H (xs.set n d) (vs.set n v)
  | _, _, _, .nil => by simp; exact .nil
  | 0, _, _, .cons _ t => by simpa using RDs.cons r t
  | n + 1, _, _, .cons q t => by simpa using RDs.cons q (t.set r n)
end

/-- the kinds of things that the store tracks -/
def stoKind : HO → Bool
  | .lst _ => true
  | .dK _ => true
  | .dT _ => true
  | .ins _ _ _ => true
  | _ => false
/-- o stands at a -/
def RO (g : Glo) (ι : List Addr) (H : Hp) (a : Addr) : O → Prop
  | .lst xs => ∃ vs, H a = some (.lst vs) ∧ RDs g ι H xs vs
  | .dic _ => False
  | .ins _ _ => False
/-- the store stands in the heap at the places ι -/
structure RS (g : Glo) (ι : List Addr) (s : Sto) (H : Hp) : Prop where
  nd : ι.Nodup
  len : ι.length = s.length
  at_ : ∀ (n : Nat) (o : O), s[n]? = some o → ∃ a, ι[n]? = some a ∧ RO g ι H a o
/-- the heap has gone on: what is not in the store stands as it stood, new places of the store are new -/
structure Ext (ι : List Addr) (H : Hp) (ι' : List Addr) (H' : Hp) : Prop where
  pre : ι <+: ι'
  keep : ∀ b o, H b = some o → b ∉ ι → H' b = some o
  new : ∀ b, b ∈ ι' → b ∉ ι → H b = none

section
variable {g : Glo} {ι ι' ι'' : List Addr} {H H' H'' : Hp} {s : Sto}
theorem RO.kind {a : Addr} {o : O} (h : RO g ι H a o) : ∃ u, H a = some u ∧ stoKind u = true := by
  cases o with
  | lst xs => obtain ⟨vs, e, _⟩ := h; exact ⟨_, e, rfl⟩
  | dic _ => exact h.elim
  | ins _ _ => exact h.elim
theorem RS.kind (h : RS g ι s H) {a : Addr} (m : a ∈ ι) : ∃ u, H a = some u ∧ stoKind u = true := by
  obtain ⟨n, hn, e⟩ := List.mem_iff_getElem.mp m
  have hs : n < s.length := by rw [← h.len]; exact hn
  obtain ⟨b, e1, r⟩ := h.at_ n s[n] (by simp [hs])
  have e2 : b = a := by
    rw [List.getElem?_eq_getElem hn, e] at e1
    exact (Option.some.inj e1).symm
  subst e2
  exact r.kind
theorem RS.apart (h : RS g ι s H) {a : Addr} {u : HO} (e : H a = some u) (k : stoKind u = false) : a ∉ ι := fun m => by
  obtain ⟨w, e1, k1⟩ := h.kind m
  rw [e] at e1; cases e1
  rw [k] at k1; cases k1
theorem Ext.refl : Ext ι H ι H := ⟨List.prefix_refl _, fun _ _ h _ => h, fun _ h n => absurd h n⟩
theorem Ext.trans (a : Ext ι H ι' H') (b : Ext ι' H' ι'' H'') : Ext ι H ι'' H'' where
  pre := a.pre.trans b.pre
  keep := fun c o e n => b.keep c o (a.keep c o e n) fun m => by
    have z := a.new c m n
    rw [e] at z; cases z
  new := fun c m n => by
    by_cases hc : c ∈ ι'
    · exact a.new c hc n
    · have z := b.new c m hc
      cases e : H c with
      | none => rfl
      | some o =>
        rw [a.keep c o e n] at z; cases z
theorem Ext.get (a : Ext ι H ι' H') {n : Nat} {b : Addr} (h : ι[n]? = some b) : ι'[n]? = some b := by
  obtain ⟨t, rfl⟩ := a.pre
  rw [List.getElem?_append_left (List.getElem?_eq_some_iff.mp h).1]
  exact h
theorem Rd.ext {a : Addr} {u : HO} (x : Ext ι H ι' H') (h : Rd H a u) (n : a ∉ ι) : Rd H' a u := by
  rcases h with h | ⟨o, h⟩
  · exact .inl (x.keep _ _ h n)
  · exact .inr ⟨o, x.keep _ _ h n⟩
theorem SqT.ext {a : Addr} {vs : List V} (rs : RS g ι s H) (x : Ext ι H ι' H') (h : SqT g.K H a vs) : SqT g.K H' a vs := by
  rcases h with h | h
  · refine .inl (Rd.ext x h ?_)
    rcases h with h | ⟨o, h⟩
    · exact rs.apart h rfl
    · exact rs.apart h rfl
  · exact .inr h
mutual
/-- data lean on tuples and on places alone -/
theorem RD.imp (hn : ∀ (n : Nat) (a : Addr), ι[n]? = some a → ι'[n]? = some a) (ht : ∀ a vs, Rd H a (.tup vs) → Rd H' a (.tup vs)) (hf : ∀ a o vs, H a = some (.frz o (.lst vs)) → H' a = some (.frz o (.lst vs))) : ∀ {d : D} {v : V}, RD g ι H d v → RD g ι' H' d v
  | _, _, .non => .non
  | _, _, .bl b => .bl b
  | _, _, .int i => .int i
  | _, _, .str z => .str z
  | _, _, .ty n => .ty n
  | _, _, .gl z => .gl z
  | _, _, .tup h r => .tup (h.elim (fun q => .inl (ht _ _ q)) .inr) (RDs.imp hn ht hf r)
  | _, _, .fro h r => .fro (h.elim (fun ⟨o, q⟩ => .inl ⟨o, hf _ _ _ q⟩) .inr) (RDs.imp hn ht hf r)
  | _, _, .loc h => .loc (hn _ _ h)
theorem RDs.imp (hn : ∀ (n : Nat) (a : Addr), ι[n]? = some a → ι'[n]? = some a) (ht : ∀ a vs, Rd H a (.tup vs) → Rd H' a (.tup vs)) (hf : ∀ a o vs, H a = some (.frz o (.lst vs)) → H' a = some (.frz o (.lst vs))) : ∀ {d : List D} {v : List V}, RDs g ι H d v → RDs g ι' H' d v
  | _, _, .nil => .nil
  | _, _, .cons r t => .cons (RD.imp hn ht hf r) (RDs.imp hn ht hf t)
end
mutual
theorem RD.ext (rs : RS g ι s H) (x : Ext ι H ι' H') : ∀ {d : D} {v : V}, RD g ι H d v → RD g ι' H' d v
  | _, _, .non => .non
  | _, _, .bl b => .bl b
  | _, _, .int i => .int i
  | _, _, .str z => .str z
  | _, _, .ty n => .ty n
  | _, _, .gl z => .gl z
  | _, _, .tup h r => .tup (SqT.ext rs x h) (RDs.ext rs x r)
  | _, _, .fro h r => .fro (h.elim (fun ⟨o, q⟩ => .inl ⟨o, x.keep _ _ q (rs.apart q rfl)⟩) .inr) (RDs.ext rs x r)
  | _, _, .loc h => .loc (x.get h)
theorem RDs.ext (rs : RS g ι s H) (x : Ext ι H ι' H') : ∀ {d : List D} {v : List V}, RDs g ι H d v → RDs g ι' H' d v
  | _, _, .nil => .nil
  | _, _, .cons r t => .cons (RD.ext rs x r) (RDs.ext rs x t)
end
end

/-- a value: data, or a list that stands outside of the store -/
inductive RT (g : Glo) (ι : List Addr) (H : Hp) : T → V → Prop
  | v {d : D} {v : V} : RD g ι H d v → RT g ι H (.v d) v
  | l {xs : List D} {a : Addr} {vs : List V} : H a = some (.lst vs) → a ∉ ι → RDs g ι H xs vs → RT g ι H (.l xs) (.ref a)
/-- a list outside of the store is new since H0 -/
def Fresh (H0 : Hp) (t : T) (v : V) : Prop :=
  match t with
  | .v _ => True
  | .l _ => ∃ a, v = .ref a ∧ H0 a = none
/-- the frame's names -/
structure RE (g : Glo) (ι : List Addr) (H : Hp) (ρ : Env) (σ : L2.St) : Prop where
  len : ρ.length = σ.length
  at_ : ∀ (i : Nat) (d : D), ρ[i]? = some (some d) → ∃ v, σ[i]? = some (some v) ∧ RD g ι H d v
/-- an exception -/
def RX (g : Glo) (ι : List Addr) (H : Hp) (x : Xc) (c : Value) (d : Option Addr) : Prop :=
  c = .ref (g.ga x.cls) ∧ ∃ dx v, d = some dx ∧ H dx = some (.xd [("at", v)]) ∧ RD g ι H x.val v

section
variable {g : Glo} {ι ι' ι'' : List Addr} {H H' H'' : Hp} {s : Sto} {ρ : Env} {σ : L2.St}
theorem Ext.out (x : Ext ι H ι' H') {a : Addr} {o : HO} (e : H a = some o) (n : a ∉ ι) : a ∉ ι' := fun m => by
  have z := x.new a m n
  rw [e] at z; cases z
theorem RT.ext (rs : RS g ι s H) (x : Ext ι H ι' H') {t : T} {v : V} (r : RT g ι H t v) : RT g ι' H' t v := by
  cases r with
  | v r => exact .v (r.ext rs x)
  | l e n r => exact .l (x.keep _ _ e n) (x.out e n) (r.ext rs x)
theorem RE.ext (rs : RS g ι s H) (x : Ext ι H ι' H') (r : RE g ι H ρ σ) : RE g ι' H' ρ σ :=
  ⟨r.len, fun i d h => let ⟨v, e, q⟩ := r.at_ i d h; ⟨v, e, q.ext rs x⟩⟩
theorem RE.set {d : D} {v : V} (r : RE g ι H ρ σ) (i : Nat) (q : RD g ι H d v) : RE g ι H (ρ.set i (some d)) (σ.set i (some v)) := by
  refine ⟨by simp [r.len], fun j e h => ?_⟩
  by_cases hj : i = j
  · subst hj
    have hi : i < ρ.length := by
      by_cases hi : i < ρ.length
      · exact hi
      · rw [List.getElem?_eq_none (by simpa using hi)] at h; cases h
    rw [List.getElem?_set_self hi] at h
    cases h
    exact ⟨v, by rw [List.getElem?_set_self (r.len ▸ hi)], q⟩
  · rw [List.getElem?_set_ne hj] at h ⊢
    exact r.at_ j e h
theorem RE.forget {i : Nat} (r : RE g ι H ρ σ) : RE g ι H (ρ.set i none) (σ.set i none) := by
  refine ⟨by simp [r.len], fun j e h => ?_⟩
  by_cases hj : i = j
  · subst hj
    by_cases hi : i < ρ.length
    · rw [List.getElem?_set_self hi] at h; cases h
    · rw [List.getElem?_eq_none (by simpa using hi)] at h; cases h
  · rw [List.getElem?_set_ne hj] at h ⊢
    exact r.at_ j e h
theorem RE.wipe (r : RE g ι H ρ σ) : ∀ vs : List Nat, RE g ι H (wipeE ρ vs) (L2.wipe σ vs)
  | [] => r
  | _ :: vs => (r.wipe vs).forget
/-- a list outside goes into the store -/
theorem keep_ok {ι0 : List Addr} {H0 : Hp} {t : T} {v : V} (rs : RS g ι s H) (x : Ext ι0 H0 ι H) (r : RT g ι H t v) (f : Fresh H0 t v) :
    ∃ ι', RS g ι' (t.keep s).2 H ∧ Ext ι0 H0 ι' H ∧ RD g ι' H (t.keep s).1 v := by
  cases r with
  | v r => exact ⟨ι, rs, x, r⟩
  | @l xs a vs e n r =>
    obtain ⟨a', ea, f⟩ := f
    cases ea
    have more : ∀ (n : Nat) (b : Addr), ι[n]? = some b → (ι ++ [a])[n]? = some b := fun n b h => by
      rw [List.getElem?_append_left (List.getElem?_eq_some_iff.mp h).1]
      exact h
    have subs : ∀ {ds vs}, RDs g ι H ds vs → RDs g (ι ++ [a]) H ds vs := fun q => q.imp more (fun _ _ h => h) fun _ _ _ h => h
    refine ⟨ι ++ [a], ⟨?_, ?_, ?_⟩, ⟨x.pre.trans (List.prefix_append _ _), x.keep, ?_⟩, ?_⟩
    · exact List.nodup_append.mpr ⟨rs.nd, by simp, fun b hb c hc => by
        have ec : c = a := by simpa using hc
        subst ec
        rintro rfl
        exact n hb⟩
    · simp [T.keep, rs.len]
    · intro k o h
      have h' : (s ++ [O.lst xs])[k]? = some o := h
      by_cases hk : k < s.length
      · rw [List.getElem?_append_left hk] at h'
        obtain ⟨b, e1, r1⟩ := rs.at_ k o h'
        refine ⟨b, by rw [List.getElem?_append_left (List.getElem?_eq_some_iff.mp e1).1]; exact e1, ?_⟩
        cases o with
        | lst ys => obtain ⟨ws, e2, r2⟩ := r1; exact ⟨ws, e2, subs r2⟩
        | dic _ => exact r1.elim
        | ins _ _ => exact r1.elim
      · rw [List.getElem?_append_right (by omega)] at h'
        have hk0 : k - s.length = 0 := by
          cases q : k - s.length with
          | zero => rfl
          | succ m => rw [q] at h'; simp at h'
        rw [hk0] at h'
        have eo : O.lst xs = o := by simpa using h'
        subst eo
        have ek : k = ι.length := by rw [rs.len]; omega
        subst ek
        exact ⟨a, by simp, vs, e, subs r⟩
    · intro b hb nb
      rcases List.mem_append.mp hb with hb | hb
      · exact x.new b hb nb
      · have eb : b = a := by simpa using hb
        subst eb
        exact f
    · exact .loc (by simp [T.keep, ← rs.len])
end
end Fy
end
section
set_option Elab.async false
set_option linter.all false
set_option maxRecDepth 100000
/-! Fy3: what it means that the evaluator tells what the text does; its glue. -/
namespace Fy
open PySem PySem.Spec PyProof.Rows L2

/-- how a result lies in the heap; H0: the heap ahead -/
structure Rl (α β : Type) where
  r : Hp → List Addr → Hp → α → β → Prop
  sh : ∀ {ι ι1 ι' : List Addr} {H H1 H' : Hp} {a : α} {b : β}, Ext ι H ι1 H1 → Ext ι1 H1 ι' H' → r H1 ι' H' a b → r H ι' H' a b

/-- a run ends so -/
def Wp {α β : Type} (g : Glo) (W : WX) (RA : Rl α β) (σ : L2.St) (ι : List Addr) (H : Hp) (m : R α) (Q : β → Hp → Prop) : Prop :=
  match m with
  | .ok a s' => ∀ ι' H' b, Ext ι H ι' H' → RS g ι' s' H' → RA.r H ι' H' a b → Q b H'
  | .ex x s' => ∀ ι' H' c d, Ext ι H ι' H' → RS g ι' s' H' → RX g ι' H' x c d → W c d σ H'
  | .bad => False

section
variable {α β γ δ : Type} {g : Glo} {W : WX} {RA : Rl α β} {RB : Rl γ δ} {σ : L2.St} {ι ι1 : List Addr} {H H1 : Hp} {Q : δ → Hp → Prop}
theorem Wp.shift {m : R γ} (h : Wp g W RB σ ι H m Q) (x : Ext ι H ι1 H1) : Wp g W RB σ ι1 H1 m Q := by
  cases m with
  | ok a s' => exact fun ι' H' b x' rs r => h ι' H' b (x.trans x') rs (RB.sh x x' r)
  | ex e s' => exact fun ι' H' c d x' rs r => h ι' H' c d (x.trans x') rs r
  | bad => exact h
theorem Wp.step {m : R α} {k : α → Sto → R γ} {N : β → Hp → Prop} (h : Wp g W RB σ ι H (m.bind k) Q)
    (hk : ∀ a s1 ι1 H1 b, Ext ι H ι1 H1 → RS g ι1 s1 H1 → RA.r H ι1 H1 a b → Wp g W RB σ ι1 H1 (k a s1) Q → N b H1) : Wp g W RA σ ι H m N := by
  cases m with
  | ok a s1 => exact fun ι1 H1 b x rs r => hk a s1 ι1 H1 b x rs r (Wp.shift (m := k a s1) h x)
  | ex e s' => exact h
  | bad => exact h
/-- .. what follows told from the start, too -/
theorem Wp.step0 {m : R α} {k : α → Sto → R γ} {N : β → Hp → Prop} (h : Wp g W RB σ ι H (m.bind k) Q)
    (hk : ∀ a s1 ι1 H1 b, m = .ok a s1 → Ext ι H ι1 H1 → RS g ι1 s1 H1 → RA.r H ι1 H1 a b → Wp g W RB σ ι H (k a s1) Q → N b H1) : Wp g W RA σ ι H m N := by
  cases m with
  | ok a s1 => exact fun ι1 H1 b x rs r => hk a s1 ι1 H1 b rfl x rs r h
  | ex e s' => exact h
  | bad => exact h
theorem Wp.ok {a : γ} {s : Sto} {b : δ} (h : Wp g W RB σ ι H (.ok a s) Q) (rs : RS g ι s H) (r : RB.r H ι H a b) : Q b H := h ι H b Ext.refl rs r
/-- an option, in the same store -/
theorem Wp.opt {o : Option γ} {s : Sto} (h : Wp g W RB σ ι H (ofO o s) Q) : ∃ a, o = some a ∧ ∀ ι' H' b, Ext ι H ι' H' → RS g ι' s H' → RB.r H ι' H' a b → Q b H' := by
  cases o with
  | some a => exact ⟨a, rfl, h⟩
  | none => exact h.elim
end

def rlT (g : Glo) : Rl T V where
  r := fun H0 ι H t v => RT g ι H t v ∧ Fresh H0 t v
  sh := fun {ι ι1 ι' H H1 H' a b} x x' ⟨r, f⟩ => ⟨r, by
    cases r with
    | v _ => trivial
    | @l xs a vs e n _ =>
      obtain ⟨a', ea, f⟩ := f
      cases ea
      refine ⟨a, rfl, ?_⟩
      cases q : H a with
      | none => rfl
      | some o =>
        by_cases m : a ∈ ι
        · exact absurd (x'.pre.mem (x.pre.mem m)) n
        · rw [x.keep a o q m] at f; cases f⟩
/-- kept data -/
def rlD (g : Glo) : Rl D V := ⟨fun _ ι H d v => RD g ι H d v, fun _ _ h => h⟩
def rlDs (g : Glo) : Rl (List D) (List V) := ⟨fun _ ι H d v => RDs g ι H d v, fun _ _ h => h⟩
def rlB : Rl Bool Bool := ⟨fun _ _ _ a b => a = b, fun _ _ h => h⟩
/-- arguments of a built-in -/
inductive RTs (g : Glo) (ι : List Addr) (H : Hp) : List T → List V → Prop
  | nil : RTs g ι H [] []
  | cons {t : T} {v : V} {ts : List T} {vs : List V} : RT g ι H t v → RTs g ι H ts vs → RTs g ι H (t :: ts) (v :: vs)
def rlTs (g : Glo) : Rl (List T) (List V) := ⟨fun _ ι H d v => RTs g ι H d v, fun _ _ h => h⟩

/-- the readings that the evaluator gives -/
def tE (g : Glo) (W : WX) (f : Env → Sto → R T) : TE := fun σ H Q => ∃ ι ρ s, RE g ι H ρ σ ∧ RS g ι s H ∧ Wp g W (rlT g) σ ι H (f ρ s) Q
def tT (g : Glo) (W : WX) (f : Env → Sto → R Bool) : TT := fun σ H Q => ∃ ι ρ s, RE g ι H ρ σ ∧ RS g ι s H ∧ Wp g W rlB σ ι H (f ρ s) Q
def tA (g : Glo) (W : WX) (f : Env → Sto → R (List D)) : TA := fun σ H Q => ∃ ι ρ s, RE g ι H ρ σ ∧ RS g ι s H ∧ Wp g W (rlDs g) σ ι H (f ρ s) Q
def tAT (g : Glo) (W : WX) (f : Env → Sto → R (List T)) : TA := fun σ H Q => ∃ ι ρ s, RE g ι H ρ σ ∧ RS g ι s H ∧ Wp g W (rlTs g) σ ι H (f ρ s) Q

theorem PE.imp {X : Cx} {e : Expr} {t t' : TE} (h : PE X e t) (f : ∀ σ H Q, t' σ H Q → t σ H Q) : PE X e t' := ⟨fun pins s σ H Q I w => h.run pins s σ H Q I (f _ _ _ w)⟩
theorem PT.imp {X : Cx} {e : Expr} {t t' : TT} (h : PT X e t) (f : ∀ σ H Q, t' σ H Q → t σ H Q) : PT X e t' := ⟨fun pins s σ H Q I w => h.run pins s σ H Q I (f _ _ _ w)⟩
theorem PA.imp {X : Cx} {e : List Expr} {t t' : TA} (h : PA X e t) (f : ∀ σ H Q, t' σ H Q → t σ H Q) : PA X e t' := ⟨fun pos pins s σ H Q I w => h.run pos pins s σ H Q I (f _ _ _ w)⟩
theorem PS.imp {X : Cx} {e : Stmt} {t t' : TS} (h : PS X e t) (f : ∀ D σ H, t' D σ H → t D σ H) : PS X e t' := ⟨fun pins s σ H D I w => h.run pins s σ H D I (f _ _ _ w)⟩
theorem PSs.imp {X : Cx} {e : List Stmt} {t t' : TS} (h : PSs X e t) (f : ∀ D σ H, t' D σ H → t D σ H) : PSs X e t' := ⟨fun pins s σ H D I w => h.run pins s σ H D I (f _ _ _ w)⟩
theorem PI.imp {X : Cx} {tg e : Expr} {t t' : TI} (h : PI X tg e t) (f : ∀ σ H R, t' σ H R → t σ H R) : PI X tg e t' := ⟨fun pins s σ H R I w => h.run pins s σ H R I (f _ _ _ w)⟩

section
variable {g : Glo} {W : WX} {X : Cx} {σ : L2.St} {ι : List Addr} {H : Hp} {s : Sto}

/-- ends in the state itself -/
theorem rlT.v {d : D} {v : V} {H0 : Hp} (r : RD g ι H d v) : (rlT g).r H0 ι H (.v d) v := ⟨.v r, trivial⟩

/-! ### a sequence met in the heap -/
theorem seq_ok {t : T} {v : V} {xs : List D} (rs : RS g ι s H) (r : RT g ι H t v) (e : seqOf t s = some xs) : ∃ a vs, v = .ref a ∧ (SqL g.K H a vs ∨ SqT g.K H a vs) ∧ RDs g ι H xs vs ∧
    ((∃ ys, t = .v (.tup ys)) → SqT g.K H a vs) ∧ ((∀ ys, t ≠ .v (.tup ys)) → SqL g.K H a vs) := by
  cases r with
  | @l ys a vs h n r =>
    have e' : some ys = some xs := e
    cases e'
    exact ⟨a, vs, rfl, .inl (.inl (.inl h)), r, fun ⟨_, q⟩ => (nomatch q), fun _ => .inl (.inl h)⟩
  | @v d v r =>
    cases r with
    | @tup ys a vs h r =>
      have e' : some ys = some xs := e
      cases e'
      exact ⟨a, vs, rfl, .inr h, r, fun _ => h, fun q => absurd rfl (q _)⟩
    | @fro ys a vs h r =>
      have e' : some ys = some xs := e
      cases e'
      exact ⟨a, vs, rfl, .inl h.list, r, fun ⟨_, q⟩ => (nomatch q), fun _ => h.list⟩
    | @loc n a h =>
      have e' : lstAt n s = some xs := e
      unfold lstAt at e'
      cases q : s[n]? with
      | none => rw [q] at e'; simp at e'
      | some o =>
        rw [q] at e'
        obtain ⟨b, e1, r1⟩ := rs.at_ n o q
        have eb : b = a := by rw [h] at e1; exact (Option.some.inj e1).symm
        subst eb
        cases o with
        | lst ys =>
          obtain ⟨vs, e2, r2⟩ := r1
          have e3 : some ys = some xs := e'
          cases e3
          exact ⟨b, vs, rfl, .inl (.inl (.inl e2)), r2, fun ⟨_, q⟩ => (nomatch q), fun _ => .inl (.inl e2)⟩
        | dic _ => exact r1.elim
        | ins _ _ => exact r1.elim
    | _ => simp [seqOf, lstOf] at e
theorem lst_ok {t : T} {v : V} {xs : List D} (rs : RS g ι s H) (r : RT g ι H t v) (e : lstOf t s = some xs) : ∃ a vs, v = .ref a ∧ SqL g.K H a vs ∧ RDs g ι H xs vs := by
  have e' : seqOf t s = some xs := by
    cases t with
    | l ys => exact e
    | v d => cases d with
      | tup ys => simp [lstOf] at e
      | _ => exact e
  obtain ⟨a, vs, ev, _, r2, _, hl⟩ := seq_ok rs r e'
  refine ⟨a, vs, ev, hl ?_, r2⟩
  rintro ys rfl
  simp [lstOf] at e

/-! ### truth -/
theorem tru_V {t : T} {v : V} {b : Bool} (rs : RS g ι s H) (r : RT g ι H t v) (e : truth t s = some b) : TruV g.K v H b := by
  have hs : sizeLine = LIM := sizeLine_eq
  have seqc : ∀ xs, seqOf t s = some xs → b = !xs.isEmpty → (∃ a, v = .ref a) → TruV g.K v H b := fun xs e1 e2 _ => by
    obtain ⟨a, vs, rfl, hq, r2, _⟩ := seq_ok rs r e1
    have el : xs.isEmpty = vs.isEmpty := by
      have := r2.length
      cases xs <;> cases vs <;> simp_all
    show (∃ xs, SqL g.K H a xs ∧ b = !xs.isEmpty) ∨ (∃ xs, SqT g.K H a xs ∧ b = !xs.isEmpty) ∨ ∃ kvs, H a = some (.dK kvs) ∧ b = !kvs.isEmpty
    rcases hq with hq | hq
    · exact .inl ⟨vs, hq, by rw [e2, el]⟩
    · exact .inr (.inl ⟨vs, hq, by rw [e2, el]⟩)
  cases r with
  | @l xs a vs h n r' => exact seqc xs rfl (by simpa [truth, seqOf, lstOf] using e.symm) ⟨a, rfl⟩
  | @v d v r' =>
    cases r' with
    | non => simp [truth] at e; subst e; rfl
    | bl b' => simp [truth] at e; subst e; rfl
    | int i => simp [truth] at e; subst e; rfl
    | str x =>
      have e' : (if x.length ≤ LIM then some ((x.length : Int) != 0) else none) = some b := e
      split at e'
      · rename_i hx
        exact ⟨by rw [hs]; exact hx, (Option.some.inj e').symm⟩
      · cases e'
    | ty n => simp [truth, seqOf, lstOf] at e
    | gl x => simp [truth, seqOf, lstOf] at e
    | @tup xs a vs h r2 => exact seqc xs rfl (by simpa [truth, seqOf] using e.symm) ⟨a, rfl⟩
    | @fro xs a vs h r2 => exact seqc xs rfl (by simpa [truth, seqOf, lstOf] using e.symm) ⟨a, rfl⟩
    | @loc n a h =>
      cases q : seqOf (.v (.loc n)) s with
      | none => simp [truth, q] at e
      | some xs => exact seqc xs q (by simpa [truth, q] using e.symm) ⟨a, rfl⟩
end
end Fy
end
section
set_option Elab.async false
set_option linter.all false
set_option maxRecDepth 100000
set_option maxHeartbeats 1000000
/-! Fy4: operators, comparisons, items, slices, built-ins, by values. -/
namespace Fy
open PySem PySem.Spec PyProof.Rows L2

section
variable {g : Glo} {ι : List Addr} {H : Hp} {s : Sto}
theorem RS.free (rs : RS g ι s H) {p : Addr} (h : H p = none) : p ∉ ι := fun m => by
  obtain ⟨u, e, _⟩ := rs.kind m
  rw [h] at e; cases e
theorem Ext.upd {p : Addr} {o : HO} (h : H p = none) : Ext ι H ι (upd H p o) :=
  ⟨List.prefix_refl _, fun b u e _ => by rw [upd_ne (ne_of_none e h)]; exact e, fun _ m n => absurd m n⟩
theorem RS.ext {H' : Hp} (rs : RS g ι s H) (x : Ext ι H ι H') (k : ∀ a, a ∈ ι → H' a = H a) : RS g ι s H' := by
  refine ⟨rs.nd, rs.len, fun n o e => ?_⟩
  obtain ⟨a, ea, r⟩ := rs.at_ n o e
  have ka := k a (List.mem_of_getElem? ea)
  refine ⟨a, ea, ?_⟩
  cases o with
  | lst xs => obtain ⟨vs, e1, r1⟩ := r; exact ⟨vs, by rw [ka]; exact e1, r1.ext rs x⟩
  | dic _ => exact r.elim
  | ins _ _ => exact r.elim
theorem RS.upd {p : Addr} {o : HO} (rs : RS g ι s H) (h : H p = none) : RS g ι s (upd H p o) :=
  rs.ext (Ext.upd h) fun a m => upd_ne fun e => rs.free h (e ▸ m)
/-- a new list -/
theorem newL {xs : List D} {vs : List V} {p : Addr} (rs : RS g ι s H) (h : H p = none) (r : RDs g ι H xs vs) : (rlT g).r H ι (upd H p (.lst vs)) (.l xs) (.ref p) :=
  ⟨.l upd_same (rs.free h) (r.ext rs (Ext.upd h)), p, rfl, h⟩
theorem newT {xs : List D} {vs : List V} {p : Addr} {H0 : Hp} (rs : RS g ι s H) (h : H p = none) (r : RDs g ι H xs vs) : (rlT g).r H0 ι (upd H p (.tup vs)) (.v (.tup xs)) (.ref p) :=
  ⟨.v (.tup (.inl (.inl upd_same)) (r.ext rs (Ext.upd h))), trivial⟩

/-- what an operation on values asks: the evaluator's answer and what follows from it -/
def Ans (g : Glo) (ι : List Addr) (s : Sto) (H : Hp) (o : Option T) (Q : VK) : Prop :=
  ∃ t, o = some t ∧ ∀ ι' H' v, Ext ι H ι' H' → RS g ι' s H' → (rlT g).r H ι' H' t v → Q v H'
theorem Ans.same {t : T} {v : V} {Q : VK} {o : Option T} (h : Ans g ι s H o Q) (e : o = some t) (rs : RS g ι s H) (r : (rlT g).r H ι H t v) : Q v H := by
  obtain ⟨t', e', q⟩ := h
  rw [e] at e'; cases e'
  exact q ι H v Ext.refl rs r
theorem Ans.new {t : T} {v : V} {Q : VK} {o : Option T} {p : Addr} {u : HO} (h : Ans g ι s H o Q) (e : o = some t) (rs : RS g ι s H) (hp : H p = none) (r : (rlT g).r H ι (L2.upd H p u) t v) : Q v (L2.upd H p u) := by
  obtain ⟨t', e', q⟩ := h
  rw [e] at e'; cases e'
  exact q ι _ v (Ext.upd hp) (rs.upd hp) r
def rO2 (g : Glo) (f : T → T → Sto → Option T) : R2 := fun x y H Q => ∃ ι s tx ty, RS g ι s H ∧ RT g ι H tx x ∧ RT g ι H ty y ∧ Ans g ι s H (f tx ty s) Q

theorem RD.int_ {i : Int} {v : V} (r : RD g ι H (.int i) v) : v = .int i := by cases r; rfl
theorem RT.int_ {i : Int} {v : V} (r : RT g ι H (.v (.int i)) v) : v = .int i := by cases r with | v r => exact r.int_
theorem RT.bl_ {i : Bool} {v : V} (r : RT g ι H (.v (.bl i)) v) : v = .bl i := by cases r with | v r => cases r; rfl
theorem RT.str_ {i : Str} {v : V} (r : RT g ι H (.v (.str i)) v) : v = .str i := by cases r with | v r => cases r; rfl
theorem RT.non_ {v : V} (r : RT g ι H (.v .non) v) : v = .non := by cases r with | v r => cases r; rfl
theorem RT.ty_ {n : String} {v : V} (r : RT g ι H (.v (.ty n)) v) : v = .ty n := by cases r with | v r => cases r; rfl
theorem RT.tup_ {xs : List D} {v : V} (r : RT g ι H (.v (.tup xs)) v) : ∃ a vs, v = .ref a ∧ SqT g.K H a vs ∧ RDs g ι H xs vs := by
  cases r with | v r => cases r with | tup h r => exact ⟨_, _, rfl, h, r⟩
theorem mlst_ok {t : T} {v : V} {xs : List D} (rs : RS g ι s H) (r : RT g ι H t v) (e : mlstOf t s = some xs) : ∃ a vs, v = .ref a ∧ H a = some (.lst vs) ∧ RDs g ι H xs vs := by
  cases r with
  | @l ys a vs h n r =>
    have e' : some ys = some xs := e
    cases e'
    exact ⟨a, vs, rfl, h, r⟩
  | @v d v r =>
    cases r with
    | @loc n a h =>
      cases q : s[n]? with
      | none => simp [mlstOf, q] at e
      | some o =>
        obtain ⟨b, e1, r1⟩ := rs.at_ n o q
        have eb : b = a := by rw [h] at e1; exact (Option.some.inj e1).symm
        subst eb
        cases o with
        | lst ys =>
          obtain ⟨vs, e2, r2⟩ := r1
          have e3 : ys = xs := by simpa [mlstOf, q] using e
          subst e3
          exact ⟨b, vs, rfl, e2, r2⟩
        | dic _ => exact r1.elim
        | ins _ _ => exact r1.elim
    | _ => simp [mlstOf] at e

/-! ### operators -/
def opOf : Bop → Operator
  | .add => .Add
  | .sub => .Sub
  | .mul => .Mult
  | .fdiv => .FloorDiv
  | .mod => .Mod
  | .pow => .Pow
variable {X : Cx}
theorem bin_ok (hK : X.K = g.K) (op : Bop) : OpR X (binaryOp (opOf op)) (rO2 g (binT op)) := by
  intro pins sh σ H x y v u Q I rx ry h
  obtain ⟨ι, s, tx, ty, rs, r1, r2, an⟩ := h
  have hs : sizeLine = LIM := sizeLine_eq
  obtain ⟨t, e, q⟩ := id an
  -- two ints
  have ints2 : ∀ (a b c : Int), tx = .v (.int a) → ty = .v (.int b) → binT op tx ty s = some (.v (.int c)) → (Q (.int c) H → x = .int a → y = .int b → wpAny (model X.prog X.w) X.A (binaryOp (opOf op) v u) (EP X pins σ Q) X.xe sh) →
      wpAny (model X.prog X.w) X.A (binaryOp (opOf op) v u) (EP X pins σ Q) X.xe sh := fun a b c ea eb ec k => by
    subst ea eb
    exact k (an.same ec rs (rlT.v (.int c))) r1.int_ r2.int_
  unfold binT at e
  split at e
  · cases e
    exact ints2 _ _ _ rfl rfl rfl fun q ex ey => op_add pins sh σ H x y v u Q I rx ry ⟨_, _, ex, ey, q⟩
  · cases e
    exact ints2 _ _ _ rfl rfl rfl fun q ex ey => op_sub pins sh σ H x y v u Q I rx ry ⟨_, _, ex, ey, q⟩
  · split at e
    · rename_i hc
      cases e
      exact ints2 _ _ _ rfl rfl (by simp [binT, hc]) fun q ex ey => op_mulW pins sh σ H x y v u Q I rx ry ⟨_, _, ex, ey, by unfold mulOk at hc; simpa [CMulW] using hc, q⟩
    · cases e
  · split at e
    · rename_i hc
      cases e
      exact ints2 _ _ _ rfl rfl (by simp [binT, hc]) fun q ex ey => op_fdivW pins sh σ H x y v u Q I rx ry ⟨_, _, ex, ey, by unfold divOk at hc; simpa [CDivW] using hc, q⟩
    · cases e
  · split at e
    · rename_i hc
      cases e
      exact ints2 _ _ _ rfl rfl (by simp [binT, hc]) fun q ex ey => op_mod pins sh σ H x y v u Q I rx ry ⟨_, _, ex, ey, hc, q⟩
    · cases e
  · split at e
    · rename_i hc
      cases e
      exact ints2 _ _ _ rfl rfl (by simp [binT, hc]) fun q ex ey => op_pow pins sh σ H x y v u Q I rx ry ⟨_, _, ex, ey, hc, q⟩
    · cases e
  · split at e
    · rename_i a b hc
      cases e
      exact op_add_str pins sh σ H x y v u Q I rx ry ⟨_, _, r1.str_, r2.str_, by rw [hs]; exact hc, an.same (by simp [binT, hc]) rs (rlT.v (.str _))⟩
    · cases e
  · split at e
    · rename_i a b hc
      cases e
      obtain ⟨p, vs, rfl, h1, d1⟩ := r1.tup_
      obtain ⟨p', ws, rfl, h2, d2⟩ := r2.tup_
      have l1 := d1.length
      have l2 := d2.length
      refine op_catA pins sh σ H _ _ v u Q I rx ry ⟨p, p', vs, ws, rfl, rfl, by rw [hK]; exact h1, by rw [hK]; exact h2, by rw [hs]; omega, fun hx => ?_, fun hx hy => ?_, fun hx hy z hz => ?_⟩
      · subst hx
        have ea : a = [] := by cases a with | nil => rfl | cons _ _ => simp at l1
        subst ea
        exact q ι H _ Ext.refl rs (by simpa using rlT.v (.tup h2 d2))
      · subst hy
        have eb : b = [] := by cases b with | nil => rfl | cons _ _ => simp at l2
        subst eb
        exact q ι H _ Ext.refl rs (by simpa using rlT.v (.tup h1 d1))
      · exact q ι _ _ (Ext.upd hz) (rs.upd hz) (newT rs hz (d1.append d2))
    · cases e
  · simp only [Option.bind_eq_some_iff] at e
    obtain ⟨a, e1, b, e2, e3⟩ := e
    split at e3
    · rename_i hc
      cases e3
      obtain ⟨p, vs, rfl, h1, d1⟩ := mlst_ok rs r1 e1
      obtain ⟨p', ws, rfl, h2, d2⟩ := mlst_ok rs r2 e2
      have l1 := d1.length
      have l2 := d2.length
      refine op_cat pins sh σ H _ _ v u Q I rx ry ⟨p, p', vs, ws, rfl, rfl, h1, h2, by rw [hs]; omega, fun z hz => ?_⟩
      exact q ι _ _ (Ext.upd hz) (rs.upd hz) (newL rs hz (d1.append d2))
    · cases e3
  · cases e

/-! ### comparisons -/
def cmpOf : Cop → CmpOp
  | .eq => .Eq
  | .ne => .NotEq
  | .lt => .Lt
  | .le => .LtE
  | .gt => .Gt
  | .ge => .GtE
  | .is => .Is
  | .isnot => .IsNot
  | .inn => .In
  | .notin => .NotIn
mutual
theorem dp_of : ∀ {d : D} {v : V} {p : PyData}, RD g ι H d v → D.py d = some p → Dp g.K H v p
  | .non, v, p, r, e => by cases r; simp [D.py] at e; subst e; exact .non
  | .bl b, v, p, r, e => by cases r; simp [D.py] at e; subst e; exact .bl b
  | .int b, v, p, r, e => by cases r; simp [D.py] at e; subst e; exact .int b
  | .str b, v, p, r, e => by cases r; simp [D.py] at e; subst e; exact .str b
  | .tup xs, v, p, r, e => by
    cases r with
    | tup h r =>
      simp only [D.py, Option.map_eq_some_iff] at e
      obtain ⟨ds, e1, rfl⟩ := e
      exact .tup h (dps_of r e1)
  | .loc _, v, p, r, e => by simp [D.py] at e
  | .fro _, v, p, r, e => by simp [D.py] at e
  | .ty _, v, p, r, e => by simp [D.py] at e
  | .gl _, v, p, r, e => by simp [D.py] at e
theorem dps_of : ∀ {d : List D} {v : List V} {p : List PyData}, RDs g ι H d v → D.pys d = some p → DpAll g.K H v p
  | [], v, p, r, e => by cases r; simp [D.pys] at e; subst e; exact .nil
  | x :: xs, v, p, r, e => by
    cases r with
    | cons r t =>
      simp only [D.pys, Option.bind_eq_some_iff, Option.map_eq_some_iff] at e
      obtain ⟨d, e1, ds, e2, rfl⟩ := e
      exact .cons (dp_of r e1) (dps_of t e2)
end
theorem dpT_of {t : T} {v : V} {p : PyData} (rs : RS g ι s H) (r : RT g ι H t v) (e : pyOf t s = some p) : Dp g.K H v p := by
  cases t with
  | l xs =>
    simp only [pyOf, Option.map_eq_some_iff] at e
    obtain ⟨ds, e1, rfl⟩ := e
    obtain ⟨a, vs, rfl, h, r⟩ := lst_ok rs r (xs := xs) rfl
    exact .lst h (dps_of r e1)
  | v d =>
    by_cases hl : ∃ n, d = .loc n
    · obtain ⟨n, rfl⟩ := hl
      simp only [pyOf, Option.bind_eq_some_iff, Option.map_eq_some_iff] at e
      obtain ⟨xs, e0, ds, e1, rfl⟩ := e
      obtain ⟨a, vs, rfl, h, r⟩ := lst_ok rs r (xs := xs) e0
      exact .lst h (dps_of r e1)
    · have e' : D.py d = some p := by cases d <;> first | exact e | exact absurd ⟨_, rfl⟩ hl
      cases r with | v r => exact dp_of r e'
theorem eq_ok (hK : X.K = g.K) (hu : X.A.units + 64 < cLine) : OpR X (compareOp .Eq) (rO2 g fun x y s => (eqT x y s).map fun b => .v (.bl b)) := by
  intro pins sh σ H x y v u Q I rx ry h
  obtain ⟨ι, s, tx, ty, rs, r1, r2, an⟩ := h
  obtain ⟨t, e, q⟩ := id an
  simp only [Option.map_eq_some_iff] at e
  obtain ⟨b, e, rfl⟩ := e
  have q' : Q (.bl b) H := q ι H _ Ext.refl rs (rlT.v (.bl b))
  unfold eqT at e
  split at e
  · cases e; cases r1.non_; cases r2.non_; exact op_eq pins sh σ H _ _ v u Q I rx ry ⟨rfl, q'⟩
  · cases e; cases r1.bl_; cases r2.bl_; exact op_eq pins sh σ H _ _ v u Q I rx ry ⟨rfl, by rename_i a b; cases a <;> cases b <;> exact q'⟩
  · cases e; cases r1.int_; cases r2.int_; exact op_eq pins sh σ H _ _ v u Q I rx ry ⟨rfl, by simpa using q'⟩
  · cases e; cases r1.str_; cases r2.str_; exact op_eq pins sh σ H _ _ v u Q I rx ry ⟨rfl, by simpa using q'⟩
  · simp only [Option.bind_eq_some_iff] at e
    obtain ⟨d, e1, e, e2, e3⟩ := e
    split at e3
    · rename_i hsh
      cases e3
      simp only [Bool.and_eq_true] at hsh
      exact op_eqD hu pins sh σ H x y v u Q I rx ry ⟨d, e, by rw [hK]; exact dpT_of rs r1 e1, by rw [hK]; exact dpT_of rs r2 e2, hsh.1, hsh.2, q'⟩
    · cases e3
theorem ne_ok (hK : X.K = g.K) (hu : X.A.units + 64 < cLine) : OpR X (compareOp .NotEq) (rO2 g fun x y s => ((eqT x y s).map (!·)).map fun b => .v (.bl b)) := by
  intro pins sh σ H x y v u Q I rx ry h
  obtain ⟨ι, s, tx, ty, rs, r1, r2, an⟩ := h
  obtain ⟨t, e, q⟩ := id an
  simp only [Option.map_eq_some_iff] at e
  obtain ⟨b', ⟨b, e, rfl⟩, rfl⟩ := e
  have q' : Q (.bl (!b)) H := q ι H _ Ext.refl rs (rlT.v (.bl (!b)))
  unfold eqT at e
  split at e
  · cases e; cases r1.non_; cases r2.non_; exact op_ne pins sh σ H _ _ v u Q I rx ry ⟨rfl, q'⟩
  · cases e; cases r1.bl_; cases r2.bl_; exact op_ne pins sh σ H _ _ v u Q I rx ry ⟨rfl, by rename_i a b; cases a <;> cases b <;> exact q'⟩
  · cases e; cases r1.int_; cases r2.int_; exact op_ne pins sh σ H _ _ v u Q I rx ry ⟨rfl, by simpa using q'⟩
  · cases e; cases r1.str_; cases r2.str_; exact op_ne pins sh σ H _ _ v u Q I rx ry ⟨rfl, by simpa using q'⟩
  · simp only [Option.bind_eq_some_iff] at e
    obtain ⟨d, e1, e, e2, e3⟩ := e
    split at e3
    · rename_i hsh
      cases e3
      simp only [Bool.and_eq_true] at hsh
      exact op_neD hu pins sh σ H x y v u Q I rx ry ⟨d, e, by rw [hK]; exact dpT_of rs r1 e1, by rw [hK]; exact dpT_of rs r2 e2, hsh.1, hsh.2, q'⟩
    · cases e3
theorem ints_ok : ∀ {xs : List D} {vs : List V} {ns : List Int}, RDs g ι H xs vs → intsD xs = some ns → vs = ns.map V.int
  | [], vs, ns, r, e => by cases r; simp [intsD] at e; subst e; rfl
  | x :: xs, vs, ns, r, e => by
    cases r with
    | cons r t =>
      cases x with
      | int i =>
        simp only [intsD, Option.map_eq_some_iff] at e
        obtain ⟨is, e1, rfl⟩ := e
        rw [r.int_, ints_ok t e1]
        rfl
      | _ => simp [intsD] at e
theorem lexAt_ord (op : Nat) (N M : List Int) (z : Bool) (hz : z = ordI op N.length M.length) : ∀ (ns ms : List Int) (i : Nat), N.drop i = ns → M.drop i = ms → i ≤ N.length → i ≤ M.length →
    Ob.lexAt (fun j => decide (N.getD j 0 = M.getD j 0)) (fun j => ordI op (N.getD j 0) (M.getD j 0)) z i (min ns.length ms.length) = ordL op ns ms
  | [], ms, i, h1, h2, l1, l2 => by
    have e1 : N.length = i := by
      have := congrArg List.length h1
      simp at this; omega
    have e2 : M.length = i + ms.length := by
      have := congrArg List.length h2
      simp at this; omega
    simp only [List.length_nil, Nat.zero_min, Ob.lexAt_zero]
    rw [hz, e1, e2]
    cases ms with
    | nil => simp only [ordL, ordI]; split <;> simp
    | cons m ms => simp only [ordL, ordI, List.length_cons]; split <;> first | (simp; done) | (simp; omega)
  | n :: ns, [], i, h1, h2, l1, l2 => by
    have e1 : N.length = i + (n :: ns).length := by
      have := congrArg List.length h1
      simp at this ⊢; omega
    have e2 : M.length = i := by
      have := congrArg List.length h2
      simp at this; omega
    simp only [List.length_nil, Nat.min_zero, Ob.lexAt_zero]
    rw [hz, e1, e2]
    simp only [ordL, ordI, List.length_cons]; split <;> first | (simp; done) | (simp; omega)
  | n :: ns, m :: ms, i, h1, h2, l1, l2 => by
    have e1 : N.length = i + (n :: ns).length := by
      have := congrArg List.length h1
      simp at this ⊢; omega
    have e2 : M.length = i + (m :: ms).length := by
      have := congrArg List.length h2
      simp at this ⊢; omega
    simp only [List.length_cons] at e1 e2
    have g1 : N.getD i 0 = n := by
      have := congrArg (·[0]?) h1
      simp at this
      simp [List.getD, this]
    have g2 : M.getD i 0 = m := by
      have := congrArg (·[0]?) h2
      simp at this
      simp [List.getD, this]
    have d1 : N.drop (i + 1) = ns := by rw [← List.drop_drop, h1]; rfl
    have d2 : M.drop (i + 1) = ms := by rw [← List.drop_drop, h2]; rfl
    have em : min (n :: ns).length (m :: ms).length = min ns.length ms.length + 1 := by simp
    rw [em, Ob.lexAt_succ, g1, g2]
    simp only [ordL]
    by_cases hnm : n = m
    · simp only [hnm, decide_true, if_true]
      rw [lexAt_ord op N M z hz ns ms (i + 1) d1 d2 (by omega) (by omega)]
    · simp only [hnm, decide_false, Bool.false_eq_true, if_false]
def ordOp : Nat → CmpOp
  | 0 => .Lt
  | 1 => .LtE
  | 2 => .Gt
  | _ => .GtE
theorem ord_tup (hK : X.K = g.K) (hu : X.A.units + 64 < cLine) (op : Nat) (ho : op < 4) {pins : List (Addr × Obj)} {sh : Shared} {σ : L2.St} {Q : VK} {a b : Addr} {ns ms : List Int} (I : Inv X pins σ H sh)
    (ha : SqT X.K H a (ns.map V.int)) (hb : SqT X.K H b (ms.map V.int)) (q : Q (.bl (ordL op ns ms)) H) :
    wpAny (model X.prog X.w) X.A (compareOp (ordOp op) (.ref a) (.ref b)) (EP X pins σ Q) X.xe sh := by
  obtain ⟨its, r1, p1, _⟩ := I.tuple ha
  obtain ⟨its2, r2, p2, _⟩ := I.tuple hb
  have i1 : IntsAre its ns := Vals.ints r1
  have i2 : IntsAre its2 ms := Vals.ints r2
  have e1 : its.toArray.size = ns.length := by rw [List.size_toArray]; exact i1.length
  have e2 : its2.toArray.size = ms.length := by rw [List.size_toArray]; exact i2.length
  have at1 : ∀ j (h1 : j < its.toArray.size), ∃ t, its.toArray[j] = .int (ns.getD j 0) t := fun j h1 => PyProof.Rows.IntsAre.int_at i1 _ _ (by simp at h1; simp [h1])
  have at2 : ∀ j (h1 : j < its2.toArray.size), ∃ t, its2.toArray[j] = .int (ms.getD j 0) t := fun j h1 => PyProof.Rows.IntsAre.int_at i2 _ _ (by simp at h1; simp [h1])
  have eqs : ∀ A j (h1 : j < its.toArray.size) (h2 : j < its2.toArray.size), SeqAt.EqAt A sh its.toArray[j] its2.toArray[j] (decide (ns.getD j 0 = ms.getD j 0)) := fun A j h1 h2 => by
    obtain ⟨t, et⟩ := at1 j h1
    obtain ⟨t', et'⟩ := at2 j h2
    rw [et, et']
    have z : (ns.getD j 0 == ms.getD j 0) = decide (ns.getD j 0 = ms.getD j 0) := by
      by_cases q : ns.getD j 0 = ms.getD j 0
      · rw [decide_eq_true q]; exact beq_iff_eq.mpr q
      · rw [decide_eq_false q]; exact beq_eq_false_iff_ne.mpr q
    rw [← z]
    exact SeqAt.EqAt.int_int _ _ _ _
  have fin : ∀ z, z = ordI op ns.length ms.length → Ob.lexAt (fun j => decide (ns.getD j 0 = ms.getD j 0)) (fun j => ordI op (ns.getD j 0) (ms.getD j 0)) z 0 (min ns.length ms.length) = ordL op ns ms :=
    fun z hz => lexAt_ord op ns ms z hz ns ms 0 rfl rfl (Nat.zero_le _) (Nat.zero_le _)
  have hu' : X.A.units < cLine := by omega
  match op, ho with
  | 0, _ =>
    have R := Ob.RcOp.tuples_lt (A := X.A) (s := sh) (e := fun j => decide (ns.getD j 0 = ms.getD j 0)) (r := fun j => ordI 0 (ns.getD j 0) (ms.getD j 0)) p1 p2 hu' (eqs _) (fun j h1 h2 _ => by
      obtain ⟨t, et⟩ := at1 j h1
      obtain ⟨t', et'⟩ := at2 j h2
      rw [et, et']
      exact Ob.RcOp.lt_int _ _ _ _)
    rw [e1, e2, fin _ (by simp [ordI])] at R
    exact R X.prog X.w X.xe (EP X pins σ Q) ⟨.bl _, H, I, rfl, q⟩
  | 1, _ =>
    have R := Ob.RcOp.tuples_le (A := X.A) (s := sh) (e := fun j => decide (ns.getD j 0 = ms.getD j 0)) (r := fun j => ordI 1 (ns.getD j 0) (ms.getD j 0)) p1 p2 hu' (eqs _) (fun j h1 h2 _ => by
      obtain ⟨t, et⟩ := at1 j h1
      obtain ⟨t', et'⟩ := at2 j h2
      rw [et, et']
      exact Ob.RcOp.le_int _ _ _ _)
    rw [e1, e2, fin _ (by simp [ordI])] at R
    exact R X.prog X.w X.xe (EP X pins σ Q) ⟨.bl _, H, I, rfl, q⟩
  | 2, _ =>
    have R := Ob.RcOp.tuples_gt (A := X.A) (s := sh) (e := fun j => decide (ns.getD j 0 = ms.getD j 0)) (r := fun j => ordI 2 (ns.getD j 0) (ms.getD j 0)) p1 p2 hu' (eqs _) (fun j h1 h2 _ => by
      obtain ⟨t, et⟩ := at1 j h1
      obtain ⟨t', et'⟩ := at2 j h2
      rw [et, et']
      exact Ob.RcOp.gt_int _ _ _ _)
    rw [e1, e2, fin _ (by simp [ordI])] at R
    exact R X.prog X.w X.xe (EP X pins σ Q) ⟨.bl _, H, I, rfl, q⟩
  | 3, _ =>
    have R := Ob.RcOp.tuples_ge (A := X.A) (s := sh) (e := fun j => decide (ns.getD j 0 = ms.getD j 0)) (r := fun j => ordI 3 (ns.getD j 0) (ms.getD j 0)) p1 p2 hu' (eqs _) (fun j h1 h2 _ => by
      obtain ⟨t, et⟩ := at1 j h1
      obtain ⟨t', et'⟩ := at2 j h2
      rw [et, et']
      exact Ob.RcOp.ge_int _ _ _ _)
    rw [e1, e2, fin _ (by simp [ordI])] at R
    exact R X.prog X.w X.xe (EP X pins σ Q) ⟨.bl _, H, I, rfl, q⟩
theorem ord_ok (hK : X.K = g.K) (hu : X.A.units + 64 < cLine) (op : Nat) (ho : op < 4) : OpR X (compareOp (ordOp op)) (rO2 g fun x y _ => (ordT op x y).map fun b => .v (.bl b)) := by
  intro pins sh σ H x y v u Q I rx ry h
  obtain ⟨ι, s, tx, ty, rs, r1, r2, an⟩ := h
  obtain ⟨t, e, q⟩ := id an
  simp only [Option.map_eq_some_iff] at e
  obtain ⟨b, e, rfl⟩ := e
  have q' : Q (.bl b) H := q ι H _ Ext.refl rs (rlT.v (.bl b))
  unfold ordT at e
  split at e
  · cases e
    cases r1.int_; cases r2.int_
    match op, ho with
    | 0, _ => exact op_lt pins sh σ H _ _ v u Q I rx ry ⟨_, _, rfl, rfl, q'⟩
    | 1, _ => exact op_le pins sh σ H _ _ v u Q I rx ry ⟨_, _, rfl, rfl, q'⟩
    | 2, _ => exact op_gt pins sh σ H _ _ v u Q I rx ry ⟨_, _, rfl, rfl, q'⟩
    | 3, _ => exact op_ge pins sh σ H _ _ v u Q I rx ry ⟨_, _, rfl, rfl, q'⟩
  · simp only [Option.bind_eq_some_iff, Option.map_eq_some_iff] at e
    obtain ⟨ns, e1, ms, e2, rfl⟩ := e
    obtain ⟨p, vs, rfl, h1, d1⟩ := r1.tup_
    obtain ⟨p', ws, rfl, h2, d2⟩ := r2.tup_
    cases rx; cases ry
    rw [ints_ok d1 e1] at h1
    rw [ints_ok d2 e2] at h2
    exact ord_tup hK hu op ho I (by rw [hK]; exact h1) (by rw [hK]; exact h2) q'
  · cases e
end
end Fy
end
section
set_option Elab.async false
set_option linter.all false
set_option maxRecDepth 100000
set_option maxHeartbeats 1000000
/-! Fy5: is, in, items, slices, built-ins, by values. -/
namespace Fy
open PySem PySem.Spec PyProof.Rows L2
section
variable {g : Glo} {ι : List Addr} {H : Hp} {s : Sto} {X : Cx}

theorem is_none {x : T} {v : V} {d : Bool} (r : RT g ι H x v) (e : isT x (.v .non) = some d) : decide (v = .non) = d := by
  cases r with
  | l h n r => simp [isT] at e; subst e; simp
  | v r => cases r <;> (simp [isT] at e; subst e; simp)
theorem is_ok : OpR X (compareOp .Is) (rO2 g fun x y _ => (isT x y).map fun b => .v (.bl b)) := by
  intro pins sh σ H x y v u Q I rx ry h
  obtain ⟨ι, s, tx, ty, rs, r1, r2, an⟩ := h
  obtain ⟨t, e, q⟩ := id an
  simp only [Option.map_eq_some_iff] at e
  obtain ⟨b, e, rfl⟩ := e
  have q' : Q (.bl b) H := q ι H _ Ext.refl rs (rlT.v (.bl b))
  cases ty with
  | l _ => simp [isT] at e
  | v d =>
    cases d with
    | non =>
      cases r2.non_
      exact op_isN pins sh σ H _ _ v u Q I rx ry ⟨rfl, by rw [is_none r1 e]; exact q'⟩
    | bl c =>
      cases r2.bl_
      cases tx with
      | l _ => simp [isT] at e
      | v d =>
        cases d with
        | bl a =>
          cases r1.bl_
          simp [isT] at e
          subst e
          exact op_is_bl pins sh σ H _ _ v u Q I rx ry ⟨_, _, rfl, rfl, by cases a <;> cases c <;> exact q'⟩
        | _ => simp [isT] at e
    | _ => cases tx <;> simp [isT] at e
theorem isnot_ok : OpR X (compareOp .IsNot) (rO2 g fun x y _ => ((isT x y).map (!·)).map fun b => .v (.bl b)) := by
  intro pins sh σ H x y v u Q I rx ry h
  obtain ⟨ι, s, tx, ty, rs, r1, r2, an⟩ := h
  obtain ⟨t, e, q⟩ := id an
  simp only [Option.map_eq_some_iff] at e
  obtain ⟨b', ⟨b, e, rfl⟩, rfl⟩ := e
  have q' : Q (.bl (!b)) H := q ι H _ Ext.refl rs (rlT.v (.bl _))
  cases ty with
  | l _ => simp [isT] at e
  | v d =>
    cases d with
    | non =>
      cases r2.non_
      exact op_notN pins sh σ H _ _ v u Q I rx ry ⟨rfl, by rw [is_none r1 e]; exact q'⟩
    | bl c =>
      cases r2.bl_
      cases tx with
      | l _ => simp [isT] at e
      | v d =>
        cases d with
        | bl a =>
          cases r1.bl_
          simp [isT] at e
          subst e
          exact op_isnot_bl pins sh σ H _ _ v u Q I rx ry ⟨_, _, rfl, rfl, by cases a <;> cases c <;> exact q'⟩
        | _ => simp [isT] at e
    | _ => cases tx <;> simp [isT] at e

theorem flat_of {d : D} {v : V} (r : RD g ι H d v) (f : flat d = true) : flatV v = true := by
  cases r <;> first | rfl | (simp [flat] at f)
theorem flats_of : ∀ {xs : List D} {vs : List V}, RDs g ι H xs vs → xs.all flat = true → vs.all flatV = true
  | _, _, .nil, _ => rfl
  | _, _, .cons r t, f => by
    simp only [List.all_cons, Bool.and_eq_true] at f ⊢
    exact ⟨flat_of r f.1, flats_of t f.2⟩
theorem eqF_of {d e : D} {v w : V} (r : RD g ι H d v) (q : RD g ι H e w) (f : flat d = true) (f' : flat e = true) : eqV v w = eqF d e := by
  cases r <;> (first | (simp [flat] at f; done) | skip) <;> cases q <;> first | rfl | (simp [flat] at f')
theorem any_of {d : D} {v : V} (r : RD g ι H d v) (f : flat d = true) : ∀ {xs : List D} {vs : List V}, RDs g ι H xs vs → xs.all flat = true → inV v vs = xs.any fun z => eqF z d
  | _, _, .nil, _ => rfl
  | _, _, .cons r' t, f' => by
    simp only [List.all_cons, Bool.and_eq_true] at f'
    unfold inV
    rw [List.any_cons, List.any_cons, eqF_of r' r f'.1 f, ← any_of r f t f'.2]
    rfl
theorem in_gen (hK : X.K = g.K) (hu : X.A.units + 65 < cLine) {tx ty : T} {x y : V} {b : Bool} (rs : RS g ι s H) (r1 : RT g ι H tx x) (r2 : RT g ι H ty y) (e : inT tx ty s = some b) :
    (∃ p xs, y = .ref p ∧ (SqL X.K H p xs ∨ SqT X.K H p xs) ∧ flatV x = true ∧ xs.all flatV = true ∧ inV x xs = b) ∨
    (∃ d ds, Dp X.K H x d ∧ Dp X.K H y (.list ds) ∧ SeqAt.shaped d = true ∧ SeqAt.shaped (.list ds) = true ∧ (ds.any fun z => PyData.eqv z d) = b) := by
  cases tx with
  | l _ => simp [inT] at e
  | v d =>
    simp only [inT, Option.bind_eq_some_iff] at e
    obtain ⟨xs, e1, e2⟩ := e
    obtain ⟨a, vs, rfl, hq, dq, ht, hl⟩ := seq_ok rs r2 e1
    split at e2
    · rename_i hf
      simp only [Bool.and_eq_true] at hf
      cases e2
      cases r1 with
      | v r1 => exact .inl ⟨a, vs, rfl, by rw [hK]; exact hq, flat_of r1 hf.1, flats_of dq hf.2, any_of r1 hf.1 dq hf.2⟩
    · split at e2
      · cases e2
      · rename_i hn
        simp only [Option.bind_eq_some_iff] at e2
        obtain ⟨p, e3, ps, e4, e5⟩ := e2
        split at e5
        · rename_i hsh
          simp only [Bool.and_eq_true] at hsh
          cases e5
          cases r1 with
          | v r1 => exact .inr ⟨p, ps, by rw [hK]; exact dp_of r1 e3, by rw [hK]; exact .lst (hl fun ys e => hn ys e) (dps_of dq e4), hsh.1, hsh.2, rfl⟩
        · cases e5
theorem in_ok (hK : X.K = g.K) (hu : X.A.units + 65 < cLine) : OpR X (compareOp .In) (rO2 g fun x y s => (inT x y s).map fun b => .v (.bl b)) := by
  intro pins sh σ H x y v u Q I rx ry h
  obtain ⟨ι, s, tx, ty, rs, r1, r2, an⟩ := h
  obtain ⟨t, e, q⟩ := id an
  simp only [Option.map_eq_some_iff] at e
  obtain ⟨b, e, rfl⟩ := e
  have q' : Q (.bl b) H := q ι H _ Ext.refl rs (rlT.v (.bl b))
  rcases in_gen hK hu rs r1 r2 e with ⟨p, xs, ey, hq, f1, f2, rfl⟩ | ⟨d, ds, h1, h2, s1, s2, rfl⟩
  · exact op_in_seq pins sh σ H _ _ v u Q I rx ry ⟨p, xs, ey, hq, f1, f2, q'⟩
  · exact op_inD hu pins sh σ H _ _ v u Q I rx ry ⟨d, ds, h1, h2, s1, s2, q'⟩
theorem notin_ok (hK : X.K = g.K) (hu : X.A.units + 65 < cLine) : OpR X (compareOp .NotIn) (rO2 g fun x y s => ((inT x y s).map (!·)).map fun b => .v (.bl b)) := by
  intro pins sh σ H x y v u Q I rx ry h
  obtain ⟨ι, s, tx, ty, rs, r1, r2, an⟩ := h
  obtain ⟨t, e, q⟩ := id an
  simp only [Option.map_eq_some_iff] at e
  obtain ⟨b', ⟨b, e, rfl⟩, rfl⟩ := e
  have q' : Q (.bl (!b)) H := q ι H _ Ext.refl rs (rlT.v (.bl _))
  rcases in_gen hK hu rs r1 r2 e with ⟨p, xs, ey, hq, f1, f2, rfl⟩ | ⟨d, ds, h1, h2, s1, s2, rfl⟩
  · exact op_notIn_seq pins sh σ H _ _ v u Q I rx ry ⟨p, xs, ey, hq, f1, f2, q'⟩
  · exact op_notInD hu pins sh σ H _ _ v u Q I rx ry ⟨d, ds, h1, h2, s1, s2, q'⟩
theorem cmp_ok (hK : X.K = g.K) (hu : X.A.units + 65 < cLine) (op : Cop) : OpR X (compareOp (cmpOf op)) (rO2 g fun x y s => (cmpT op x y s).map fun b => .v (.bl b)) := by
  have hu' : X.A.units + 64 < cLine := by omega
  cases op with
  | eq => exact eq_ok hK hu'
  | ne => exact ne_ok hK hu'
  | lt => exact ord_ok hK hu' 0 (by decide)
  | le => exact ord_ok hK hu' 1 (by decide)
  | gt => exact ord_ok hK hu' 2 (by decide)
  | ge => exact ord_ok hK hu' 3 (by decide)
  | is => exact is_ok
  | isnot => exact isnot_ok
  | inn => exact in_ok hK hu
  | notin => exact notin_ok hK hu

/-! ### items and slices -/
theorem atI_ok {xs : List D} {vs : List V} {i : Int} {d : D} (r : RDs g ι H xs vs) (e : atI xs i = some d) : ∃ v, atI vs i = some v ∧ RD g ι H d v := by
  unfold atI at e ⊢
  rw [← r.length]
  cases h : ixN xs.length i with
  | none => rw [h] at e; cases e
  | some j =>
    rw [h] at e
    exact r.get e
theorem idx_ok (hK : X.K = g.K) : IxR X (rO2 g idxT) := by
  intro va sl pins sh σ H x y v u Q I rx ry h hsub
  obtain ⟨ι, s, tx, ty, rs, r1, r2, an⟩ := h
  obtain ⟨t, e, q⟩ := id an
  cases ty with
  | l _ => simp [idxT] at e
  | v d =>
    cases d with
    | int i =>
      cases r2.int_
      simp only [idxT, Option.map_eq_some_iff, Option.bind_eq_some_iff] at e
      obtain ⟨d, ⟨xs, e1, e2⟩, rfl⟩ := e
      obtain ⟨a, vs, rfl, hq, dq, ht, hl⟩ := seq_ok rs r1 e1
      obtain ⟨w, e3, rw'⟩ := atI_ok dq e2
      have q' : Q w H := q ι H _ Ext.refl rs (rlT.v rw')
      rcases hq with hq | hq
      · exact ix_list va sl pins sh σ H _ _ v u Q I rx ry ⟨a, vs, i, w, rfl, rfl, by rw [hK]; exact hq, e3, q'⟩ hsub
      · exact ix_tup va sl pins sh σ H _ _ v u Q I rx ry ⟨a, vs, i, w, rfl, rfl, by rw [hK]; exact hq, e3, q'⟩ hsub
    | _ => simp [idxT] at e
theorem cut_ok {xs : List D} {vs : List V} (r : RDs g ι H xs vs) (lo hi : Option Int) : RDs g ι H (cutD xs lo hi) (cutV vs lo hi) := by
  unfold cutD cutV
  rw [r.length]
  exact (r.drop _).take _
def rOS (g : Glo) : V → Option Int → Option Int → Hp → VK → Prop := fun x lo hi H Q => ∃ ι s tx, RS g ι s H ∧ RT g ι H tx x ∧ Ans g ι s H (slcT tx lo hi s) Q
theorem slc_ok (hK : X.K = g.K) : SlR X (rOS g) := by
  intro pins sh σ H x v vl vu lo hi sl Q I rx hs pl pu h
  obtain ⟨ι, s, tx, rs, r1, an⟩ := h
  obtain ⟨t, e, q⟩ := id an
  have lst : ∀ xs, lstOf tx s = some xs → t = .l (cutD xs lo hi) → ∃ T id, typeLookup (.type T) "__getitem__" = pure (some (.builtin id)) ∧ sh.TypeIs v T ∧ wpAny (model X.prog X.w) X.A (getItem v (.ref sl)) (EP X pins σ Q) X.xe sh := fun xs e1 e2 => by
    obtain ⟨a, vs, rfl, hq, dq⟩ := lst_ok rs r1 e1
    refine sl_list pins sh σ H _ v vl vu lo hi sl Q I rx hs pl pu ⟨a, vs, rfl, by rw [hK]; exact hq, fun p hp => ?_⟩
    subst e2
    exact q ι _ _ (Ext.upd hp) (rs.upd hp) (newL rs hp (cut_ok dq lo hi))
  cases tx with
  | l xs =>
    simp only [slcT, Option.map_eq_some_iff] at e
    obtain ⟨ys, e1, e2⟩ := e
    exact lst ys e1 e2.symm
  | v d =>
    cases d with
    | tup xs =>
      have et : T.v (.tup (cutD xs lo hi)) = t := by simpa [slcT] using e
      subst et
      obtain ⟨a, vs, rfl, hq, dq⟩ := r1.tup_
      refine sl_tupA pins sh σ H _ v vl vu lo hi sl Q I rx hs pl pu ⟨a, vs, rfl, by rw [hK]; exact hq, fun hw => ?_, fun hw p hp => ?_⟩
      · have ec : cutD xs lo hi = xs := by
          have hl := dq.length
          unfold cutD
          rw [hl, hw.1, hw.2, ← hl]
          simp
        rw [ec] at q
        exact q ι H _ Ext.refl rs (rlT.v (.tup hq dq))
      · exact q ι _ _ (Ext.upd hp) (rs.upd hp) (newT rs hp (cut_ok dq lo hi))
    | _ =>
      first
        | (simp [slcT, lstOf] at e; done)
        | (simp only [slcT, Option.map_eq_some_iff] at e
           obtain ⟨ys, e1, e2⟩ := e
           exact lst ys e1 e2.symm)

/-! ### built-ins -/
theorem bools_ok : ∀ {xs : List D} {vs : List V} {bs : List Bool}, RDs g ι H xs vs → bools xs = some bs → vs = bs.map V.bl
  | [], vs, ns, r, e => by cases r; simp [bools] at e; subst e; rfl
  | x :: xs, vs, ns, r, e => by
    cases r with
    | cons r t =>
      cases x with
      | bl i =>
        simp only [bools, Option.map_eq_some_iff] at e
        obtain ⟨is, e1, rfl⟩ := e
        cases r
        rw [bools_ok t e1]
        rfl
      | _ => simp [bools] at e
theorem kit_kinds : ∀ t ∈ ["NoneType", "bool", "int", "str", "tuple", "list"], ∀ c ∈ kinds, kitB t c = some (isSub t c) := by decide +kernel
theorem ty_ok {t : T} {v : V} {n : String} (rs : RS g ι s H) (r : RT g ι H t v) (e : tyOf t s = some n) : TyX g.K H v (.type n) ∧ n ∈ ["NoneType", "bool", "int", "str", "tuple", "list"] := by
  cases r with
  | l h nn r => simp [tyOf] at e; subst e; exact ⟨.base (.lst h), by simp⟩
  | @v d v r =>
    cases r with
    | non => simp [tyOf] at e; subst e; exact ⟨.base .non, by simp⟩
    | bl b => simp [tyOf] at e; subst e; exact ⟨.base (.bl b), by simp⟩
    | int i => simp [tyOf] at e; subst e; exact ⟨.base (.int i), by simp⟩
    | str x => simp [tyOf] at e; subst e; exact ⟨.base (.str x), by simp⟩
    | ty m => simp [tyOf] at e
    | gl m => simp [tyOf] at e
    | tup h r =>
      simp [tyOf] at e
      subst e
      refine ⟨?_, by simp⟩
      rcases h with (h | ⟨o, h⟩) | ⟨o, its, m, h1, h2, _⟩
      · exact .base (.tup h)
      · exact .fTuple h
      · exact .kTuple h1 h2
    | fro h r =>
      simp [tyOf] at e
      subst e
      refine ⟨?_, by simp⟩
      rcases h with ⟨o, h⟩ | ⟨o, its, m, h1, h2, _⟩
      · exact .base (.frz h)
      · exact .kList h1 h2
    | @loc m a h =>
      simp only [tyOf, Option.map_eq_some_iff] at e
      obtain ⟨xs, e1, e2⟩ := e
      subst e2
      refine ⟨?_, by simp⟩
      unfold lstAt at e1
      cases q : s[m]? with
      | none => rw [q] at e1; simp at e1
      | some o =>
        obtain ⟨b, e3, r3⟩ := rs.at_ m o q
        have eb : b = a := by rw [h] at e3; exact (Option.some.inj e3).symm
        subst eb
        cases o with
        | lst ys => obtain ⟨vs, e4, _⟩ := r3; exact .base (.lst e4)
        | dic _ => exact r3.elim
        | ins _ _ => exact r3.elim

def biOf : Bi → Value
  | .len => .builtin "len"
  | .int => .type "int"
  | .abs => .builtin "abs"
  | .isinst => .builtin "isinstance"
  | .all => .builtin "all"
  | .any => .builtin "any"
  | .tuple => .type "tuple"
  | .list => .type "list"
  | .min => .builtin "min"
  | .max => .builtin "max"
  | .sum => .builtin "sum"
  | .sorted => .builtin "sorted"
theorem RTs.one {t : T} {vs : List V} (r : RTs g ι H [t] vs) : ∃ v, vs = [v] ∧ RT g ι H t v := by
  cases r with | cons r t => cases t; exact ⟨_, rfl, r⟩
theorem RTs.two {t u : T} {vs : List V} (r : RTs g ι H [t, u] vs) : ∃ v w, vs = [v, w] ∧ RT g ι H t v ∧ RT g ι H u w := by
  cases r with | cons r t => cases t with | cons r' t => cases t; exact ⟨_, _, rfl, r, r'⟩
def rOB (g : Glo) (f : Bi) : List V → Hp → VK → Prop := fun vs H Q => ∃ ι s ts, RS g ι s H ∧ RTs g ι H ts vs ∧ Ans g ι s H (biT f ts s) Q
theorem bi_ok (hK : X.K = g.K) (hc : X.calm = true) (f : Bi) : CallR X (biOf f) (rOB g f) := by
  intro pins sh σ H vs us Q I rv h
  obtain ⟨ι, s, ts, rs, r, an⟩ := h
  obtain ⟨t, e, q⟩ := id an
  have hs : sizeLine = LIM := sizeLine_eq
  have fin : ∀ d v, t = .v d → RD g ι H d v → Q v H := fun d v et rd => by subst et; exact q ι H _ Ext.refl rs (rlT.v rd)
  unfold biT at e
  split at e
  · -- len
    obtain ⟨v, rfl, r1⟩ := r.one
    split at e
    · split at e
      · rename_i z hz
        cases e
        cases r1.str_
        exact call_len pins sh σ H _ us Q I rv ⟨_, z.length, rfl, ⟨by rw [hs]; exact hz, rfl⟩, fin _ _ rfl (.int _)⟩
      · cases e
    · simp only [Option.map_eq_some_iff] at e
      obtain ⟨xs, e1, e2⟩ := e
      obtain ⟨a, ws, rfl, hq, dq, _⟩ := seq_ok rs r1 e1
      refine call_len pins sh σ H _ us Q I rv ⟨_, ws.length, rfl, ?_, ?_⟩
      · rcases hq with hq | hq
        · exact .inl ⟨ws, by rw [hK]; exact hq, rfl⟩
        · exact .inr ⟨ws, by rw [hK]; exact hq, rfl⟩
      · rw [← dq.length]
        exact fin _ _ e2.symm (.int _)
  · obtain ⟨v, rfl, r1⟩ := r.one
    cases r1.int_
    cases e
    exact call_int1 pins sh σ H _ us Q I rv (.inl ⟨_, rfl, fin _ _ rfl (.int _)⟩)
  · obtain ⟨v, rfl, r1⟩ := r.one
    cases r1.bl_
    cases e
    exact call_int1 pins sh σ H _ us Q I rv (.inr ⟨_, rfl, fin _ _ rfl (.int _)⟩)
  · obtain ⟨v, rfl, r1⟩ := r.one
    cases r1.int_
    cases e
    exact call_abs pins sh σ H _ us Q I rv ⟨_, rfl, fin _ _ rfl (.int _)⟩
  · -- isinstance
    obtain ⟨v, w, rfl, r1, r2⟩ := r.two
    cases r2.ty_
    simp only [Option.bind_eq_some_iff] at e
    obtain ⟨n, e1, e2⟩ := e
    split at e2
    · rename_i hk
      cases e2
      obtain ⟨tx, hn⟩ := ty_ok rs r1 e1
      exact call_isi pins sh σ H _ us Q I rv ⟨_, _, _, _, _, rfl, .ty _, by rw [hK]; exact tx, kit_ty (kit_kinds n hn _ hk), fin _ _ rfl (.bl _)⟩
    · cases e2
  · obtain ⟨v, rfl, r1⟩ := r.one
    simp only [Option.map_eq_some_iff, Option.bind_eq_some_iff] at e
    obtain ⟨bs, ⟨xs, e1, e2⟩, e3⟩ := e
    obtain ⟨a, ws, rfl, hq, dq⟩ := lst_ok rs r1 e1
    rw [bools_ok dq e2] at hq
    exact cr_all hc pins sh σ H _ us Q I rv ⟨a, bs, rfl, by rw [hK]; exact hq, fin _ _ e3.symm (.bl _)⟩
  · obtain ⟨v, rfl, r1⟩ := r.one
    simp only [Option.map_eq_some_iff, Option.bind_eq_some_iff] at e
    obtain ⟨bs, ⟨xs, e1, e2⟩, e3⟩ := e
    obtain ⟨a, ws, rfl, hq, dq⟩ := lst_ok rs r1 e1
    rw [bools_ok dq e2] at hq
    exact cr_any hc pins sh σ H _ us Q I rv ⟨a, bs, rfl, by rw [hK]; exact hq, fin _ _ e3.symm (.bl _)⟩
  · -- tuple
    obtain ⟨v, rfl, r1⟩ := r.one
    simp only [Option.map_eq_some_iff] at e
    obtain ⟨xs, e1, e2⟩ := e
    obtain ⟨a, ws, rfl, hq, dq, _⟩ := seq_ok rs r1 e1
    refine call_tuple_of pins sh σ H _ us Q I rv ⟨a, ws, rfl, ?_⟩
    rcases hq with hq | hq
    · exact .inl ⟨by rw [hK]; exact hq, fun l hl => by subst e2; exact q ι _ _ (Ext.upd hl) (rs.upd hl) (newT rs hl dq)⟩
    · exact .inr ⟨by rw [hK]; exact hq, fin _ _ e2.symm (.tup hq dq)⟩
  · obtain ⟨v, rfl, r1⟩ := r.one
    simp only [Option.map_eq_some_iff] at e
    obtain ⟨xs, e1, e2⟩ := e
    obtain ⟨a, ws, rfl, hq, dq, _⟩ := seq_ok rs r1 e1
    refine call_list_of pins sh σ H _ us Q I rv ⟨a, ws, rfl, by rw [hK]; exact hq, fun l hl => ?_⟩
    subst e2
    exact q ι _ _ (Ext.upd hl) (rs.upd hl) (newL rs hl dq)
  · obtain ⟨v, w, rfl, r1, r2⟩ := r.two
    cases r1.int_; cases r2.int_
    cases e
    exact call_min2 hc pins sh σ H _ us Q I rv ⟨_, _, rfl, fin _ _ rfl (.int _)⟩
  · obtain ⟨v, w, rfl, r1, r2⟩ := r.two
    cases r1.int_; cases r2.int_
    cases e
    exact call_max2 hc pins sh σ H _ us Q I rv ⟨_, _, rfl, fin _ _ rfl (.int _)⟩
  · obtain ⟨v, rfl, r1⟩ := r.one
    simp only [Option.map_eq_some_iff, Option.bind_eq_some_iff] at e
    obtain ⟨bs, ⟨xs, e1, e2⟩, e3⟩ := e
    obtain ⟨a, ws, rfl, hq, dq⟩ := lst_ok rs r1 e1
    rw [ints_ok dq e2] at hq
    exact cr_sum hc pins sh σ H _ us Q I rv ⟨a, bs, rfl, by rw [hK]; exact hq, fin _ _ e3.symm (.int _)⟩
  · cases e
end
end Fy
end
section
set_option Elab.async false
set_option linter.all false
set_option maxRecDepth 100000
set_option maxHeartbeats 1000000
/-! Fy6: targets, what is walked, the loops of comprehensions. -/
namespace Fy
open PySem PySem.Spec PyProof.Rows L2
section
variable {g : Glo} {ι : List Addr} {H : Hp} {s : Sto} {X : Cx} {W : WX}

/-! ### names -/
def visB (sc : Scope) (x : Str) : Bool :=
  match sc.names.lookup x with
  | some .local => true
  | some .cell => true
  | some .free => true
  | _ => false
theorem visB_ok {sc : Scope} {x : Str} (h : visB sc x = true) : Vis sc x := by
  unfold visB at h
  split at h
  · exact .inl (by assumption)
  · exact .inr (.inl (by assumption))
  · exact .inr (.inr (by assumption))
  · cases h
/-- a name that may be stored: fb tells whose cells are the frame's own -/
def locB (sc : Scope) (fb : Str → Bool) (x : Str) : Bool :=
  match sc.names.lookup x with
  | some .local => true
  | some .cell => fb x
  | _ => false
theorem locB_ok {sc : Scope} {fb : Str → Bool} {x : Str} (h : locB sc fb x = true) : Loc sc x ∧ (fb x = true ∨ sc.names.lookup x = some .local) := by
  unfold locB at h
  split at h
  · exact ⟨.inl (by assumption), .inr (by assumption)⟩
  · exact ⟨.inr (by assumption), .inl h⟩
  · cases h
def glB (sc : Scope) (x : Str) : Bool :=
  match sc.names.lookup x with
  | some .globalImplicit => true
  | _ => false
theorem glB_ok {X : Cx} {x : Str} (h : glB X.env.scope x = true) : Gl X x := by
  unfold glB at h
  split at h
  · assumption
  · cases h

/-! ### targets -/
mutual
def ckT (sc : Scope) (fb : Str → Bool) (N : List Str) : Tg → Expr → Bool
  | .nm i, .Name x _ => decide (N[i]? = some x) && locB sc fb x
  | .tp ts, .Tuple es _ _ => ckTs sc fb N ts es
  | _, _ => false
def ckTs (sc : Scope) (fb : Str → Bool) (N : List Str) : Tgs → List Expr → Bool
  | .nil, [] => true
  | .cons t ts, e :: es => ckT sc fb N t e && ckTs sc fb N ts es
  | _, _ => false
end
/-- what the evaluator's store of a target gives -/
def gE (g : Glo) (t : Tg) : TG := fun v σ H Q => ∃ ι ρ s d ρ', RE g ι H ρ σ ∧ RS g ι s H ∧ RD g ι H d v ∧ bindT t d ρ = some ρ' ∧ ∀ σ', RE g ι H ρ' σ' → (∀ vs, (∀ i ∈ t.slots, i ∈ vs) → L2.wipe σ' vs = L2.wipe σ vs) → Q σ' H
def gEs (g : Glo) (t : Tgs) : TGs := fun vs σ H Q => ∃ ι ρ s ds ρ', RE g ι H ρ σ ∧ RS g ι s H ∧ RDs g ι H ds vs ∧ bindTs t ds ρ = some ρ' ∧ ∀ σ', RE g ι H ρ' σ' → (∀ vs, (∀ i ∈ t.slots, i ∈ vs) → L2.wipe σ' vs = L2.wipe σ vs) → Q σ' H
theorem PG.imp {X : Cx} {e : Expr} {t t' : TG} (h : PG X e t) (f : ∀ v σ H Q, t' v σ H Q → t v σ H Q) : PG X e t' := ⟨fun pins s σ H v u Q I r w => h.run pins s σ H v u Q I r (f _ _ _ _ w)⟩
theorem PGs.imp {X : Cx} {e : List Expr} {t t' : TGs} (h : PGs X e t) (f : ∀ v σ H Q, t' v σ H Q → t v σ H Q) : PGs X e t' := ⟨fun pins s σ H v u Q I r w => h.run pins s σ H v u Q I r (f _ _ _ _ w)⟩
theorem ckTs_len {sc : Scope} {fb : Str → Bool} {N : List Str} : ∀ {ts : Tgs} {es : List Expr}, ckTs sc fb N ts es = true → es.length = ts.len
  | .nil, [], _ => rfl
  | .cons t ts, e :: es, h => by
    simp only [ckTs, Bool.and_eq_true] at h
    simp [Tgs.len, ckTs_len h.2]
  | .nil, _ :: _, h => by simp [ckTs] at h
  | .cons _ _, [], h => by simp [ckTs] at h
theorem each_len (env : PySem.Env) : ∀ es : List Expr, (assignEach es env).length = es.length
  | [] => rfl
  | e :: es => by cases e <;> simp [assignEach, each_len env es]
theorem ckT_star {sc : Scope} {fb : Str → Bool} {N : List Str} {t : Tg} {e : Expr} (h : ckT sc fb N t e = true) (es : List Expr) (env : PySem.Env) : assignEach (e :: es) env = (false, assign e env) :: assignEach es env := by
  cases t <;> cases e <;> first | rfl | (simp [ckT] at h)
theorem ckTs_star {sc : Scope} {fb : Str → Bool} {N : List Str} (env : PySem.Env) : ∀ {ts : Tgs} {es : List Expr}, ckTs sc fb N ts es = true → (assignEach es env).findIdx? (·.1) = none
  | .nil, [], _ => rfl
  | .cons t ts, e :: es, h => by
    simp only [ckTs, Bool.and_eq_true] at h
    rw [ckT_star h.1, List.findIdx?_cons]
    simp [ckTs_star env h.2]
  | .nil, _ :: _, h => by simp [ckTs] at h
  | .cons _ _, [], h => by simp [ckTs] at h
theorem wipe_set {σ : L2.St} {i : Nat} {v : V} : ∀ {vs : List Nat}, i ∈ vs → L2.wipe (σ.set i (some v)) vs = L2.wipe σ vs
  | [], h => by simp at h
  | j :: vs, h => by
    have comm : ∀ vs, L2.wipe (σ.set i (some v)) vs = (if i ∈ vs then L2.wipe σ vs else (L2.wipe σ vs).set i (some v)) := by
      intro vs
      induction vs with
      | nil => simp [L2.wipe]
      | cons k vs ih =>
        unfold L2.wipe
        rw [ih]
        by_cases hk : i ∈ vs
        · simp [hk]
        · by_cases e : i = k
          · subst e
            simp [hk, List.set_set]
          · simp only [hk, if_false, List.mem_cons, e, or_self]
            exact List.set_comm _ _ e
    rw [comm, if_pos h]
theorem wipe_get {σ : L2.St} : ∀ {vs : List Nat} {i : Nat}, i ∈ vs → i < σ.length → (L2.wipe σ vs)[i]? = some none
  | j :: vs, i, h, hl => by
    unfold L2.wipe
    by_cases e : j = i
    · subst e
      rw [List.getElem?_set_self (by rw [wipe_length]; exact hl)]
    · rw [List.getElem?_set_ne e]
      exact wipe_get ((List.mem_cons.mp h).resolve_left (fun q => e q.symm)) hl
theorem wipe_other {σ : L2.St} : ∀ {vs : List Nat} {i : Nat}, i ∉ vs → (L2.wipe σ vs)[i]? = σ[i]?
  | [], _, _ => rfl
  | j :: vs, i, h => by
    unfold L2.wipe
    rw [List.getElem?_set_ne (fun e => h (by rw [e]; exact List.mem_cons_self))]
    exact wipe_other fun m => h (List.mem_cons_of_mem _ m)
theorem wipe_wipe (σ : L2.St) (vs : List Nat) : L2.wipe (L2.wipe σ vs) vs = L2.wipe σ vs := by
  apply List.ext_getElem?
  intro i
  by_cases h : i ∈ vs
  · by_cases hl : i < σ.length
    · rw [wipe_get h hl, wipe_get h (by rw [wipe_length]; exact hl)]
    · rw [List.getElem?_eq_none (by rw [wipe_length, wipe_length]; omega), List.getElem?_eq_none (by rw [wipe_length]; omega)]
  · rw [wipe_other h]
mutual
theorem okT (hK : X.K = g.K) (hc : X.calm = true) (hN : X.N.Nodup) : ∀ (t : Tg) (e : Expr), ckT X.env.scope X.fn X.N t e = true → PG X e (gE g t)
  | .nm i, .Name x _, h => by
    simp only [ckT, Bool.and_eq_true, decide_eq_true_eq] at h
    obtain ⟨h1, h2⟩ := h
    obtain ⟨h3, h4⟩ := locB_ok h2
    refine PG.imp (pg_name hN h1 h3 h4) fun v σ H Q ⟨ι, ρ, s, d, ρ', re, rs, rd, hb, q⟩ => ?_
    simp only [bindT, Option.some.injEq] at hb
    subst hb
    exact q _ (re.set i rd) fun vs hv => wipe_set (hv i (by simp [Tg.slots]))
  | .tp ts, .Tuple es _ _, h => by
    have h' : ckTs X.env.scope X.fn X.N ts es = true := by simpa [ckT] using h
    refine PG.imp (pg_tup hc (okTs hK hc hN ts es h') (each_len _ _) (ckTs_star _ h')) fun v σ H Q ⟨ι, ρ, s, d, ρ', re, rs, rd, hb, q⟩ => ?_
    cases d with
    | tup xs =>
      simp only [bindT] at hb
      split at hb
      · rename_i hl
        cases rd with
        | @tup _ a vs hq dq => exact ⟨a, vs, rfl, by rw [hK]; exact hq, by rw [← dq.length, hl, ckTs_len h'], ι, ρ, s, xs, ρ', re, rs, dq, hb, fun σ' r w => q σ' r fun vs hv => w vs fun i hi => hv i (by simpa [Tg.slots] using hi)⟩
      · cases hb
    | _ => simp [bindT] at hb
  | .nm _, .Tuple _ _ _, h => by simp [ckT] at h
  | .tp _, .Name _ _, h => by simp [ckT] at h
theorem okTs (hK : X.K = g.K) (hc : X.calm = true) (hN : X.N.Nodup) : ∀ (t : Tgs) (e : List Expr), ckTs X.env.scope X.fn X.N t e = true → PGs X e (gEs g t)
  | .nil, [], h => PGs.imp pgs_nil fun v σ H Q ⟨ι, ρ, s, ds, ρ', re, rs, rd, hb, q⟩ => by
    cases ds with
    | nil => cases rd; simp [bindTs] at hb; subst hb; exact ⟨rfl, q _ re fun _ _ => rfl⟩
    | cons _ _ => simp [bindTs] at hb
  | .cons t ts, e :: es, h => by
    simp only [ckTs, Bool.and_eq_true] at h
    refine PGs.imp (pgs_cons (okT hK hc hN t e h.1) (okTs hK hc hN ts es h.2) (by rw [ckT_star h.1]; rfl)) fun v σ H Q ⟨ι, ρ, s, ds, ρ', re, rs, rd, hb, q⟩ => ?_
    cases ds with
    | nil => simp [bindTs] at hb
    | cons d ds =>
      cases rd with
      | cons r t =>
        simp only [bindTs, Option.bind_eq_some_iff] at hb
        obtain ⟨ρ1, h1, h2⟩ := hb
        exact ⟨_, _, rfl, ι, ρ, s, d, ρ1, re, rs, r, h1, fun σ1 re1 w1 => ⟨ι, ρ1, s, ds, ρ', re1, rs, t, h2, fun σ2 re2 w2 => q σ2 re2 fun vs hv => (w2 vs fun i hi => hv i (by simp [Tgs.slots, hi])).trans (w1 vs fun i hi => hv i (by simp [Tgs.slots, hi]))⟩⟩
  | .nil, _ :: _, h => by simp [ckTs] at h
  | .cons _ _, [], h => by simp [ckTs] at h
end

/-! ### what is walked -/
/-- J walks the items, as long as their lists stand -/
def Walks (g : Glo) (ι : List Addr) (H : Hp) (I : Items) (J : L2.It) : Prop :=
  ∀ ι1 H1 s1 i, Ext ι H ι1 H1 → RS g ι1 s1 H1 → stands I.src s1 = true →
    (∀ d, I.xs[i]? = some d → J.go i H1 ∧ ∀ x H2, J.yld i H1 x H2 → Ext ι1 H1 ι1 H2 ∧ RS g ι1 s1 H2 ∧ RD g ι1 H2 d x) ∧ (I.xs.length ≤ i → J.stop i H1)
theorem Walks.shift {ι1 : List Addr} {H1 : Hp} {I : Items} {J : L2.It} (w : Walks g ι H I J) (x : Ext ι H ι1 H1) : Walks g ι1 H1 I J := fun ι2 H2 s2 i x2 => w ι2 H2 s2 i (x.trans x2)
def rlI (g : Glo) : Rl Items L2.It := ⟨fun _ ι H I J => Walks g ι H I J, fun _ _ h => h⟩
def tI (g : Glo) (W : WX) (f : Env → Sto → R Items) : TI := fun σ H R => ∃ ι ρ s, RE g ι H ρ σ ∧ RS g ι s H ∧ Wp g W (rlI g) σ ι H (f ρ s) R

/-- where the items of a value are read, as long as they stand -/
theorem src_ok {t : T} {v : V} {I : Items} (rs : RS g ι s H) (r : RT g ι H t v) (e : itemsOf t s = some I) : ∃ a, v = .ref a ∧
    ((∃ xs, t = .v (.tup xs)) → ∀ ι1 H1 s1, Ext ι H ι1 H1 → RS g ι1 s1 H1 → stands I.src s1 = true → ∃ vs, SqT g.K H1 a vs ∧ RDs g ι1 H1 I.xs vs) ∧
    ((∀ xs, t ≠ .v (.tup xs)) → ∀ ι1 H1 s1, Ext ι H ι1 H1 → RS g ι1 s1 H1 → stands I.src s1 = true → ∃ vs, SqL g.K H1 a vs ∧ RDs g ι1 H1 I.xs vs) := by
  cases r with
  | @l xs a vs h n r =>
    simp only [itemsOf, Option.some.injEq] at e
    subst e
    exact ⟨a, rfl, fun ⟨_, q⟩ => (nomatch q), fun _ ι1 H1 s1 x rs1 _ => ⟨vs, .inl (.inl (x.keep _ _ h n)), r.ext rs x⟩⟩
  | @v d v r =>
    cases r with
    | @tup xs a vs h r =>
      simp only [itemsOf, Option.some.injEq] at e
      subst e
      exact ⟨a, rfl, fun _ ι1 H1 s1 x rs1 _ => ⟨vs, SqT.ext rs x h, r.ext rs x⟩, fun q => absurd rfl (q xs)⟩
    | @fro xs a vs h r =>
      simp only [itemsOf, Option.some.injEq] at e
      subst e
      exact ⟨a, rfl, fun ⟨_, q⟩ => (nomatch q), fun _ ι1 H1 s1 x rs1 _ => by
        cases RD.ext rs x (RD.fro h r) with
        | fro h' r' => exact ⟨_, h'.list, r'⟩⟩
    | @loc n a h =>
      simp only [itemsOf, Option.map_eq_some_iff] at e
      obtain ⟨xs, e1, rfl⟩ := e
      refine ⟨a, rfl, fun ⟨_, q⟩ => (nomatch q), fun _ ι1 H1 s1 x rs1 st => ?_⟩
      have st' : lstAt n s1 = some xs := by simpa [stands] using st
      obtain ⟨b, vs, eb, hq, dq⟩ := lst_ok rs1 (RT.v (RD.loc (x.get h))) (show lstOf (.v (.loc n)) s1 = some xs from st')
      cases eb
      exact ⟨vs, hq, dq⟩
    | _ => simp [itemsOf] at e
theorem walks_list {a : Addr} {I : Items} (h : ∀ ι1 H1 s1, Ext ι H ι1 H1 → RS g ι1 s1 H1 → stands I.src s1 = true → ∃ vs, SqL g.K H1 a vs ∧ RDs g ι1 H1 I.xs vs) : Walks g ι H I (Itl g.K a) := fun ι1 H1 s1 i x rs st => by
  obtain ⟨vs, hq, dq⟩ := h ι1 H1 s1 x rs st
  refine ⟨fun d hd => ?_, fun hi => ⟨vs, hq, by rw [← dq.length]; exact hi⟩⟩
  obtain ⟨w, e, rw'⟩ := dq.get hd
  refine ⟨⟨vs, w, hq, e⟩, fun y H2 ⟨e2, e3⟩ => ?_⟩
  subst e2
  have ey : y = w := by
    have z := e3 vs hq
    rw [e] at z; exact (Option.some.inj z).symm
  subst ey
  exact ⟨Ext.refl, rs, rw'⟩
theorem walks_tup {a : Addr} {I : Items} (h : ∀ ι1 H1 s1, Ext ι H ι1 H1 → RS g ι1 s1 H1 → stands I.src s1 = true → ∃ vs, SqT g.K H1 a vs ∧ RDs g ι1 H1 I.xs vs) : Walks g ι H I (Itt g.K a) := fun ι1 H1 s1 i x rs st => by
  obtain ⟨vs, hq, dq⟩ := h ι1 H1 s1 x rs st
  refine ⟨fun d hd => ?_, fun hi => ⟨vs, hq, by rw [← dq.length]; exact hi⟩⟩
  obtain ⟨w, e, rw'⟩ := dq.get hd
  refine ⟨⟨vs, w, hq, e⟩, fun y H2 ⟨e2, e3⟩ => ?_⟩
  subst e2
  have ey : y = w := by
    have z := e3 vs hq
    rw [e] at z; exact (Option.some.inj z).symm
  subst ey
  exact ⟨Ext.refl, rs, rw'⟩
theorem walks_rng {lo hi : Int} {I : Items} {n : Nat} (e : rangeD lo hi = some I) (hn : n = (hi - lo).toNat) : Walks g ι H I (Itr lo n) := fun ι1 H1 s1 i x rs st => by
  unfold rangeD at e
  split at e
  · cases e
    subst hn
    refine ⟨fun d hd => ?_, fun hend => ?_⟩
    · simp only [List.getElem?_map, Option.map_eq_some_iff] at hd
      obtain ⟨j, hj, rfl⟩ := hd
      obtain ⟨hlt, ej⟩ := List.getElem?_eq_some_iff.mp hj
      simp only [List.length_range] at hlt
      simp only [List.getElem_range] at ej
      subst ej
      refine ⟨hlt, fun y H2 ⟨e2, e3⟩ => ?_⟩
      subst e2 e3
      exact ⟨Ext.refl, rs, .int _⟩
    · rw [List.length_map, List.length_range] at hend
      exact hend
  · cases e
theorem pairs_get {xs ys : List D} {d : D} {i : Nat} (h : ((xs.zip ys).map fun p => D.tup [p.1, p.2])[i]? = some d) : ∃ x y, xs[i]? = some x ∧ ys[i]? = some y ∧ d = .tup [x, y] := by
  simp only [List.getElem?_map, Option.map_eq_some_iff] at h
  obtain ⟨⟨x, y⟩, h1, rfl⟩ := h
  obtain ⟨h2, h3⟩ := List.getElem?_zip_eq_some.mp h1
  exact ⟨x, y, h2, h3, rfl⟩
theorem pairs_len {xs ys : List D} {i : Nat} (h : ((xs.zip ys).map fun p => D.tup [p.1, p.2]).length ≤ i) : xs.length ≤ i ∨ ys.length ≤ i := by
  simp only [List.length_map, List.length_zip] at h
  omega
/-- a pair just laid -/
theorem pair_ok {p : Addr} {x y : D} {v w : V} (rs : RS g ι s H) (hp : H p = none) (r1 : RD g ι H x v) (r2 : RD g ι H y w) :
    Ext ι H ι (L2.upd H p (.tup [v, w])) ∧ RS g ι s (L2.upd H p (.tup [v, w])) ∧ RD g ι (L2.upd H p (.tup [v, w])) (.tup [x, y]) (.ref p) :=
  ⟨Ext.upd hp, rs.upd hp, .tup (.inl (.inl upd_same)) (.cons (r1.ext rs (Ext.upd hp)) (.cons (r2.ext rs (Ext.upd hp)) .nil))⟩
theorem walks_zipL {a b : Addr} {xs ys : List D} {src : List (Nat × List D)}
    (h : ∀ ι1 H1 s1, Ext ι H ι1 H1 → RS g ι1 s1 H1 → stands src s1 = true → ∃ vs ws, SqL g.K H1 a vs ∧ RDs g ι1 H1 xs vs ∧ SqL g.K H1 b ws ∧ RDs g ι1 H1 ys ws) :
    Walks g ι H ⟨(xs.zip ys).map fun p => .tup [p.1, p.2], src⟩ (Itz g.K a b) := fun ι1 H1 s1 i x rs st => by
  obtain ⟨vs, ws, h1, d1, h2, d2⟩ := h ι1 H1 s1 x rs st
  refine ⟨fun d hd => ?_, fun hi => ⟨vs, ws, h1, h2, by rw [← d1.length, ← d2.length]; exact pairs_len hi⟩⟩
  obtain ⟨x', y', g1, g2, rfl⟩ := pairs_get hd
  obtain ⟨v, e1, r1⟩ := d1.get g1
  obtain ⟨w, e2, r2⟩ := d2.get g2
  refine ⟨⟨vs, ws, v, w, h1, h2, e1, e2⟩, fun z H2 ⟨T', v', w', e3, e4, e5, e6, e7⟩ => ?_⟩
  have ev : v' = v := by
    have z := e6 vs h1
    rw [e1] at z; exact (Option.some.inj z).symm
  have ew : w' = w := by
    have z := e7 ws h2
    rw [e2] at z; exact (Option.some.inj z).symm
  subst e3 e5 ev ew
  exact pair_ok rs e4 r1 r2
theorem walks_zipT {a b : Addr} {xs ys : List D} {src : List (Nat × List D)}
    (h : ∀ ι1 H1 s1, Ext ι H ι1 H1 → RS g ι1 s1 H1 → stands src s1 = true → ∃ vs ws, SqT g.K H1 a vs ∧ RDs g ι1 H1 xs vs ∧ SqT g.K H1 b ws ∧ RDs g ι1 H1 ys ws) :
    Walks g ι H ⟨(xs.zip ys).map fun p => .tup [p.1, p.2], src⟩ (RZ.ItzT g.K a b) := fun ι1 H1 s1 i x rs st => by
  obtain ⟨vs, ws, h1, d1, h2, d2⟩ := h ι1 H1 s1 x rs st
  refine ⟨fun d hd => ?_, fun hi => ⟨vs, ws, h1, h2, by rw [← d1.length, ← d2.length]; exact pairs_len hi⟩⟩
  obtain ⟨x', y', g1, g2, rfl⟩ := pairs_get hd
  obtain ⟨v, e1, r1⟩ := d1.get g1
  obtain ⟨w, e2, r2⟩ := d2.get g2
  refine ⟨⟨vs, ws, v, w, h1, h2, e1, e2⟩, fun z H2 ⟨T', v', w', e3, e4, e5, e6, e7⟩ => ?_⟩
  have ev : v' = v := by
    have z := e6 vs h1
    rw [e1] at z; exact (Option.some.inj z).symm
  have ew : w' = w := by
    have z := e7 ws h2
    rw [e2] at z; exact (Option.some.inj z).symm
  subst e3 e5 ev ew
  exact pair_ok rs e4 r1 r2
theorem walks_enum {a : Addr} {I : Items} (h : ∀ ι1 H1 s1, Ext ι H ι1 H1 → RS g ι1 s1 H1 → stands I.src s1 = true → ∃ vs, SqL g.K H1 a vs ∧ RDs g ι1 H1 I.xs vs) :
    Walks g ι H ⟨I.xs.zipIdx.map fun p => .tup [.int (p.2 : Nat), p.1], I.src⟩ (Ite g.K a) := fun ι1 H1 s1 i x rs st => by
  obtain ⟨vs, h1, d1⟩ := h ι1 H1 s1 x rs st
  refine ⟨fun d hd => ?_, fun hi => ⟨vs, h1, by rw [← d1.length]; simpa using hi⟩⟩
  simp only [List.getElem?_map, Option.map_eq_some_iff, List.getElem?_zipIdx] at hd
  obtain ⟨⟨y, k⟩, ⟨y', g1, e0⟩, rfl⟩ := hd
  simp only [Nat.zero_add, Prod.mk.injEq] at e0
  obtain ⟨rfl, rfl⟩ := e0
  obtain ⟨w, e1, r1⟩ := d1.get g1
  refine ⟨⟨vs, w, h1, e1⟩, fun z H2 ⟨T', w', e3, e4, e5, e6⟩ => ?_⟩
  have ew : w' = w := by
    have z := e6 vs h1
    rw [e1] at z; exact (Option.some.inj z).symm
  subst e3 e5 ew
  exact pair_ok rs e4 (.int _) r1

/-- a list or a tuple, walked -/
theorem pi_seq {l tg : Expr} {tl : TE} (hl : PE X l tl) : PI X tg l (fun σ H R => tl σ H fun x H1 => ∃ a, x = .ref a ∧ (((∃ xs, SqL X.K H1 a xs) ∧ R (Itl X.K a) H1) ∨ ((∃ xs, SqT X.K H1 a xs) ∧ R (Itt X.K a) H1))) := by
  constructor
  intro pins s σ H R I h
  apply thn (hl.run pins s σ H _ I h)
  rintro v s1 ⟨x, H1, I1, r1, a, e, q⟩
  subst e
  cases r1
  have fresh : ∀ b ∈ [s1.heap.objs.size], FpOk X pins H1 b := fun b hb => by
    rw [List.mem_singleton.mp hb]
    exact I1.fpOk (Nat.le_refl _) (I1.hok.fresh (Nat.le_refl _))
  rcases q with ⟨⟨xs, hq⟩, q⟩ | ⟨⟨xs, hq⟩, q⟩
  · obtain ⟨its, rv, p, hz⟩ := I1.list hq
    apply wpAny_pyIter_list p.isList
    exact ⟨_, [s1.heap.objs.size], _, _, H1, rfl, I1.kept (t' := s1.toks) (fun b o e => Heap.get?_push_of_some _ e), turn_list a _, ⟨_, Heap.get?_push_size _ rfl, rfl, rfl⟩, fresh, q⟩
  · obtain ⟨its, rv, p, hz⟩ := I1.tuple hq
    apply wpAny_pyIter_tuple (show s1.heap.IsTuple a its.toArray from p)
    exact ⟨_, [s1.heap.objs.size], _, _, H1, rfl, I1.kept (t' := s1.toks) (fun b o e => Heap.get?_push_of_some _ e), turn_tuple a _, ⟨_, Heap.get?_push_size _ rfl, rfl, rfl⟩, fresh, q⟩
end
end Fy
end
section
set_option Elab.async false
set_option linter.all false
set_option maxRecDepth 100000
set_option maxHeartbeats 1000000
/-! Fy7: what the evaluator tells of an expression is what the text does. -/
namespace Fy
open PySem PySem.Spec PyProof.Rows L2

def biName : Bi → Str
  | .len => "len"
  | .int => "int"
  | .abs => "abs"
  | .isinst => "isinstance"
  | .all => "all"
  | .any => "any"
  | .tuple => "tuple"
  | .list => "list"
  | .min => "min"
  | .max => "max"
  | .sum => "sum"
  | .sorted => "sorted"
theorem biBoot : ∀ f, bootBuiltins (biName f) = some (biOf f) := by
  intro f
  cases f <;> decide +kernel
/-- the classes that are named -/
def tyNames : List (Str × String) := [("int", "int"), ("bool", "bool"), ("str", "str"), ("tuple", "tuple"), ("list", "list"), ("dict", "dict")]
theorem tyBoot : ∀ p ∈ tyNames, bootBuiltins p.1 = some (.type p.2) := by decide +kernel
theorem tyNot : ∀ p ∈ tyNames, p.1 ≠ "__name__" ∧ (p.1 == ("__debug__" : Str)) = false := by decide +kernel

/-- what a call of a def is worth -/
def spF (g : Glo) (tb : Str → Option Fn) (wf k : Nat) (f : Str) (np : Nat) : Sp := fun vs H Q E => ∃ ι s ds, RS g ι s H ∧ RDs g ι H ds vs ∧ vs.length = np ∧
  Wp g (fun c d _ H => E c d H) (rlT g) [] ι H (run tb wf k f ds s) Q

/-- a def of the text, ready to be called -/
structure CallOk (g : Glo) (P : Program) (w : World) (mg : Str → Option Value) (base : Heap) (tb : Str → Option Fn) (wf k : Nat) (f : Str) (d : Fn) : Prop where
  ok : ∃ (fa : Addr) (fd : FuncData) (ps : List Str), FnOk P w g.K mg base (L2.CX P w) k fa fd ps (spF g tb wf k f d.np) ∧ ps.length = d.np ∧ mg f = some (.ref fa) ∧ PySem.W.keepIn g.K (.ref fa) = true ∧
    ∀ n, n ≤ d.np → d.np - n ≤ d.dv.length → ∃ ds dvs, Binds g.K fd ps ds ∧ Vals dvs ds ∧ ∀ ι H, RDs g ι H (d.dv.drop (d.dv.length + n - d.np)) dvs

/-- where one stands -/
structure CtxA (g : Glo) (tb : Str → Option Fn) (wf k : Nat) (W : WX) (X : Cx) : Prop where
  hK : X.K = g.K
  calm : X.calm = true
  nd : X.N.Nodup
  kind : X.env.scope.kind = .function
  po : PassesOwn (model X.prog X.w) X.A X.env X.xe
  room : Room k X.A
  mgB : ∀ f, X.mg (biName f) = none
  mgI : X.mg "range" = none ∧ X.mg "zip" = none ∧ X.mg "enumerate" = none
  mgT : ∀ p ∈ tyNames, X.mg p.1 = none
  tk : Takes X W
  calls : ∀ f d, tb f = some d → CallOk g X.prog X.w X.mg X.base tb wf k f d

abbrev noW : WX := fun _ _ _ _ => False
section
variable {g : Glo} {tb : Str → Option Fn} {wf k : Nat} {W : WX} {X : Cx}
theorem CtxA.blk (c : CtxA g tb wf k W X) (s : Shared) (H : Hp) (scope : Scope) (C : Addr) (cl : List (Str × Addr)) (fp : List Addr) (hk : scope.kind = .function) : CtxA g tb wf k noW (X.blk s H scope (compEnvC scope cl C X.env) fp) :=
  ⟨c.hK, c.calm, c.nd, hk, fun _ _ z => z.elim, c.room, c.mgB, c.mgI, c.mgT, fun u s' x => by
    obtain ⟨_, _, _, _, _, _, _, _, _, _, _, _, _, _, _, _, w⟩ := x
    exact w, c.calls⟩

/-! ### the checker: that a piece of the text is what the IR says -/
def opB : Bop → Operator → Bool
  | .add, .Add => true
  | .sub, .Sub => true
  | .mul, .Mult => true
  | .fdiv, .FloorDiv => true
  | .mod, .Mod => true
  | .pow, .Pow => true
  | _, _ => false
theorem opB_ok {a : Bop} {b : Operator} (h : opB a b = true) : b = opOf a := by
  cases a <;> cases b <;> first | rfl | (simp [opB] at h)
def cmpB : Cop → CmpOp → Bool
  | .eq, .Eq => true
  | .ne, .NotEq => true
  | .lt, .Lt => true
  | .le, .LtE => true
  | .gt, .Gt => true
  | .ge, .GtE => true
  | .is, .Is => true
  | .isnot, .IsNot => true
  | .inn, .In => true
  | .notin, .NotIn => true
  | _, _ => false
theorem cmpB_ok {a : Cop} {b : CmpOp} (h : cmpB a b = true) : b = cmpOf a := by
  cases a <;> cases b <;> first | rfl | (simp [cmpB] at h)
def notStar : Expr → Bool
  | .Starred _ _ => false
  | .Slice _ _ _ _ => false
  | .Set _ _ _ => false
  | _ => true
def okNm (x : Str) : Bool := !(x == ("__debug__" : Str)) && !(x == ("__classdict__" : Str))
def fbOf (scope : Scope) : Str → Bool := fun x => scope.names.lookup x == some .cell
def arB (tb : Str → Option Fn) (f : Str) (n : Nat) : Bool :=
  match tb f with
  | some d => decide (n ≤ d.np) && decide (d.np - n ≤ d.dv.length)
  | none => false
mutual
def ckE (tb : Str → Option Fn) (sc : Scope) (fb : Str → Bool) (N : List Str) : E → Expr → Bool
  | .var i, .Name x _ => decide (N[i]? = some x) && visB sc x && okNm x
  | .int n, .Constant (.int m) _ _ => decide (n = m)
  | .bl b, .Constant (.bool c) _ _ => b == c
  | .non, .Constant .none _ _ => true
  | .str x, .Constant (.str y) _ _ => decide (x = y)
  | .tyn x t, .Name y _ => decide (x = y) && glB sc y && decide ((x, t) ∈ tyNames)
  | .bin op a b, .BinOp x o y _ => opB op o && ckE tb sc fb N a x && ckE tb sc fb N b y
  | .neg a, .UnaryOp .USub x _ => ckE tb sc fb N a x
  | .cmp op a b, .Compare x [o] [y] _ => cmpB op o && ckE tb sc fb N a x && ckE tb sc fb N b y
  | .chain op op' a b c, .Compare x [o, o'] [y, z] _ => cmpB op o && cmpB op' o' && ckE tb sc fb N a x && ckE tb sc fb N b y && ckE tb sc fb N c z
  | .and2 a b, .BoolOp .And (x :: y :: r) p => ckE tb sc fb N a x && (match r with | [] => ckE tb sc fb N b y | _ => ckE tb sc fb N b (.BoolOp .And (y :: r) p))
  | .or2 a b, .BoolOp .Or (x :: y :: r) p => ckE tb sc fb N a x && (match r with | [] => ckE tb sc fb N b y | _ => ckE tb sc fb N b (.BoolOp .Or (y :: r) p))
  | .not1 a, .UnaryOp .Not x _ => ckE tb sc fb N a x
  | .ite c a b, .IfExp x y z _ => ckE tb sc fb N c x && ckE tb sc fb N a y && ckE tb sc fb N b z
  | .tup es, .Tuple xs _ _ => ckEs tb sc fb N es xs
  | .lst es, .List xs _ => ckEs tb sc fb N es xs
  | .idx a i, .Subscript x y _ => ckE tb sc fb N a x && ckE tb sc fb N i y
  | .slc a lo hi, .Subscript x (.Slice l h none _) _ => ckE tb sc fb N a x && ckEo tb sc fb N lo l && ckEo tb sc fb N hi h
  | .call f es, .Call (.Name x _) (y :: ys) [] _ => decide (f = x) && glB sc x && okNm x && arB tb x (ys.length + 1) && ckEs tb sc fb N es (y :: ys)
  | .bi f es, .Call (.Name x _) (y :: ys) [] _ => decide (biName f = x) && glB sc x && okNm x && ckEs tb sc fb N es (y :: ys)
  | .lc own tg it c e, .ListComp x [⟨t, i, ifs, 0⟩] scope _ => blkC N sc scope own && tg.slots.all (fun n => decide (n ∈ own.map (·.2))) && ckT (relS scope sc) (fbOf scope) N tg t && ckIt tb sc fb N it t i && ckC tb (relS scope sc) (fbOf scope) N c ifs && ckE tb (relS scope sc) (fbOf scope) N e x
  | _, _ => false
def ckEs (tb : Str → Option Fn) (sc : Scope) (fb : Str → Bool) (N : List Str) : Es → List Expr → Bool
  | .nil, [] => true
  | .cons e es, x :: xs => ckE tb sc fb N e x && ckEs tb sc fb N es xs
  | _, _ => false
def ckEo (tb : Str → Option Fn) (sc : Scope) (fb : Str → Bool) (N : List Str) : Eo → Option Expr → Bool
  | .none, none => true
  | .some e, some x => ckE tb sc fb N e x
  | _, _ => false
def ckC (tb : Str → Option Fn) (sc : Scope) (fb : Str → Bool) (N : List Str) : Eo → List Expr → Bool
  | .none, [] => true
  | .some e, [x] => ckE tb sc fb N e x
  | _, _ => false
def ckIt (tb : Str → Option Fn) (sc : Scope) (fb : Str → Bool) (N : List Str) : It → Expr → Expr → Bool
  | .seq e, _, x => ckE tb sc fb N e x
  | .rng es, _, .Call (.Name x _) xs [] _ => decide (x = "range") && glB sc x && ckEs tb sc fb N es xs && (xs.length == 1 || xs.length == 2)
  | .zip a b, .Tuple _ _ _, .Call (.Name x _) [y, z] [] _ => decide (x = "zip") && glB sc x && ckE tb sc fb N a y && ckE tb sc fb N b z
  | .enum a, .Tuple _ _ _, .Call (.Name x _) [y] [] _ => decide (x = "enumerate") && glB sc x && ckE tb sc fb N a y
  | _, _, _ => false
end
section
variable {tb : Str → Option Fn} {sc : Scope} {fb : Str → Bool} {N : List Str}
theorem ck_star {e : E} {x : Expr} (h : ckE tb sc fb N e x = true) : notStar x = true := by
  cases x <;> first | rfl | (cases e <;> simp [ckE] at h)
theorem star_of {x : Expr} (h : notStar x = true) (xs : List Expr) (env : PySem.Env) : starEach (x :: xs) env = (false, eval x env) :: starEach xs env := by
  cases x <;> first | rfl | (simp [notStar] at h)
theorem plain_of {x : Expr} (h : notStar x = true) : PlainIx x := by
  cases x <;> first | (intro _ _; rfl) | (simp [notStar] at h)
theorem noset_of {x : Expr} (h : notStar x = true) (env : PySem.Env) (v : Value) : foldedSetIterable x env v = pure v := by
  cases x <;> first | rfl | (simp [notStar] at h)
theorem nomarks {x : Expr} (h : notStar x = true) (op : CmpOp) : behindInMarks op x = false := by
  cases x <;> first | rfl | (simp [notStar] at h)
theorem stars {es : Es} {xs : List Expr} (h : ckEs tb sc fb N es xs = true) (pos : Pos) (env : PySem.Env) : (backTo pos (starEach xs env)).any (·.1) = false := by
  induction xs generalizing es with
  | nil => rfl
  | cons x xs ih =>
    cases es with
    | nil => simp [ckEs] at h
    | cons e es =>
      simp only [ckEs, Bool.and_eq_true] at h
      rw [star_of (ck_star h.1)]
      exact ih h.2
end
end
end Fy
end
section
set_option Elab.async false
set_option linter.all false
set_option maxRecDepth 100000
set_option maxHeartbeats 2000000
/-! Fy8: expressions, one construct after another. -/
namespace Fy
open PySem PySem.Spec PyProof.Rows L2
/-- a value's truth behind it -/
def thr (f : Env → Sto → R T) : Env → Sto → R Bool := fun ρ s => (f ρ s).bind fun t s => ofO (truth t s) s
section
variable {g : Glo} {W : WX} {X : Cx} {σ : L2.St} {ι : List Addr} {H : Hp} {s : Sto} {e a b c : Expr} {f fa fb fc : Env → Sto → R T} {pos : Pos}

theorem pt_of (hK : X.K = g.K) (he : PE X e (tE g W f)) (hp : ∀ whole, PySem.isTrue e X.env whole = (do let v ← whole; standAt e.pos; holding [v] (truthy v))) : PT X e (tT g W (thr f)) :=
  PT.imp (pt_truth he hp) fun σ H Q ⟨ι, ρ, s, re, rs, w⟩ => ⟨ι, ρ, s, re, rs, Wp.step (RA := rlT g) w fun t s1 ι1 H1 v x1 rs1 r1 w1 => by
    obtain ⟨b, e, q⟩ := w1.opt
    exact ⟨b, by rw [hK]; exact tru_V rs1 r1.1 e, q ι1 H1 b Ext.refl rs1 rfl⟩⟩
theorem wp_cond {α β : Type} {RB : Rl α β} {Q : β → Hp → Prop} {ρ : Env} {m1 m2 : T → Sto → R α} {N : Bool → Hp → Prop}
    (w : Wp g W RB σ ι H ((fa ρ s).bind fun x s => match truth x s with | some true => m1 x s | some false => m2 x s | none => .bad) Q)
    (h1 : ∀ x s1 ι1 H1, truth x s1 = some true → Ext ι H ι1 H1 → RS g ι1 s1 H1 → Wp g W RB σ ι1 H1 (m1 x s1) Q → N true H1)
    (h2 : ∀ x s1 ι1 H1, truth x s1 = some false → Ext ι H ι1 H1 → RS g ι1 s1 H1 → Wp g W RB σ ι1 H1 (m2 x s1) Q → N false H1) : Wp g W rlB σ ι H (thr fa ρ s) N := by
  unfold thr
  cases h : fa ρ s with
  | ok x s1 =>
    rw [h] at w
    simp only [R.bind_ok] at w ⊢
    cases ht : truth x s1 with
    | none => rw [ht] at w; exact w.elim
    | some b =>
      rw [ht] at w
      rintro ι' H' b' x1 rs1 r1
      have r1' : b = b' := r1
      subst r1'
      cases b with
      | true => exact h1 x s1 ι' H' ht x1 rs1 (Wp.shift (m := m1 x s1) w x1)
      | false => exact h2 x s1 ι' H' ht x1 rs1 (Wp.shift (m := m2 x s1) w x1)
  | ex x s1 => rw [h] at w; exact w
  | bad => rw [h] at w; exact w.elim

/-! ### and, or, not, if -/
def fAnd (fa fb : Env → Sto → R T) : Env → Sto → R T := fun ρ s => (fa ρ s).bind fun x s => match truth x s with | some true => fb ρ s | some false => .ok x s | none => .bad
def fOr (fa fb : Env → Sto → R T) : Env → Sto → R T := fun ρ s => (fa ρ s).bind fun x s => match truth x s with | some false => fb ρ s | some true => .ok x s | none => .bad
def fIte (fc fa fb : Env → Sto → R T) : Env → Sto → R T := fun ρ s => (fc ρ s).bind fun x s => match truth x s with | some true => fa ρ s | some false => fb ρ s | none => .bad
theorem pe_and_ {x y : Expr} {r : List Expr} (hK : X.K = g.K) (ha : PE X x (tE g W fa)) (hb : PE X (.BoolOp .And (y :: r) pos) (tE g W fb)) : PE X (.BoolOp .And (x :: y :: r) pos) (tE g W (fAnd fa fb)) :=
  PE.imp (pe_andT ha hb) fun σ H Q ⟨ι, ρ, s, re, rs, w⟩ => ⟨ι, ρ, s, re, rs, Wp.step0 (RA := rlT g) w fun t s1 ι1 H1 v _ x1 rs1 r1 w0 => by
    cases ht : truth t s1 with
    | none => simp only [ht] at w0; exact w0.elim
    | some b =>
      refine ⟨b, by rw [hK]; exact tru_V rs1 r1.1 ht, ?_⟩
      cases b with
      | true => simp only [ht] at w0; exact ⟨ι1, ρ, s1, re.ext rs x1, rs1, Wp.shift w0 x1⟩
      | false => simp only [ht] at w0; exact w0 ι1 H1 v x1 rs1 r1⟩
theorem pe_or_ {x y : Expr} {r : List Expr} (hK : X.K = g.K) (ha : PE X x (tE g W fa)) (hb : PE X (.BoolOp .Or (y :: r) pos) (tE g W fb)) : PE X (.BoolOp .Or (x :: y :: r) pos) (tE g W (fOr fa fb)) :=
  PE.imp (pe_orT ha hb) fun σ H Q ⟨ι, ρ, s, re, rs, w⟩ => ⟨ι, ρ, s, re, rs, Wp.step0 (RA := rlT g) w fun t s1 ι1 H1 v _ x1 rs1 r1 w0 => by
    cases ht : truth t s1 with
    | none => simp only [ht] at w0; exact w0.elim
    | some b =>
      refine ⟨b, by rw [hK]; exact tru_V rs1 r1.1 ht, ?_⟩
      cases b with
      | false => simp only [ht] at w0; exact ⟨ι1, ρ, s1, re.ext rs x1, rs1, Wp.shift w0 x1⟩
      | true => simp only [ht] at w0; exact w0 ι1 H1 v x1 rs1 r1⟩
theorem pe_not_ {x : Expr} (hK : X.K = g.K) (ha : PE X x (tE g W fa)) : PE X (.UnaryOp .Not x pos) (tE g W fun ρ s => (fa ρ s).bind fun x s => match truth x s with | some b => .ok (.v (.bl (!b))) s | none => .bad) :=
  PE.imp (pe_notT ha) fun σ H Q ⟨ι, ρ, s, re, rs, w⟩ => ⟨ι, ρ, s, re, rs, Wp.step0 (RA := rlT g) w fun t s1 ι1 H1 v _ x1 rs1 r1 w0 => by
    cases ht : truth t s1 with
    | none => simp only [ht] at w0; exact w0.elim
    | some b =>
      refine ⟨b, by rw [hK]; exact tru_V rs1 r1.1 ht, ?_⟩
      simp only [ht] at w0
      exact w0 ι1 H1 _ x1 rs1 (rlT.v (.bl _))⟩
theorem thr_and : thr (fAnd fa fb) = fun ρ s => (fa ρ s).bind fun x s => match truth x s with | some true => thr fb ρ s | some false => .ok false s | none => .bad := by
  funext ρ s
  unfold thr fAnd
  cases fa ρ s with
  | ok x s1 =>
    simp only [R.bind_ok]
    cases ht : truth x s1 with
    | none => rfl
    | some b => cases b <;> simp [ht]
  | ex x s1 => rfl
  | bad => rfl
theorem thr_or : thr (fOr fa fb) = fun ρ s => (fa ρ s).bind fun x s => match truth x s with | some true => .ok true s | some false => thr fb ρ s | none => .bad := by
  funext ρ s
  unfold thr fOr
  cases fa ρ s with
  | ok x s1 =>
    simp only [R.bind_ok]
    cases ht : truth x s1 with
    | none => rfl
    | some b => cases b <;> simp [ht]
  | ex x s1 => rfl
  | bad => rfl
theorem thr_ite : thr (fIte fc fa fb) = fun ρ s => (fc ρ s).bind fun x s => match truth x s with | some true => thr fa ρ s | some false => thr fb ρ s | none => .bad := by
  funext ρ s
  unfold thr fIte
  cases fc ρ s with
  | ok x s1 =>
    simp only [R.bind_ok]
    cases ht : truth x s1 with
    | none => rfl
    | some b => cases b <;> rfl
  | ex x s1 => rfl
  | bad => rfl
def fNot (fa : Env → Sto → R T) : Env → Sto → R T := fun ρ s => (fa ρ s).bind fun x s => match truth x s with | some b => .ok (.v (.bl (!b))) s | none => .bad
theorem thr_not : thr (fNot fa) = fun ρ s => (thr fa ρ s).bind fun b s => .ok (!b) s := by
  funext ρ s
  simp only [thr, fNot]
  cases fa ρ s with
  | ok x s1 =>
    simp only [R.bind_ok]
    cases ht : truth x s1 with
    | none => rfl
    | some b => rfl
  | ex x s1 => rfl
  | bad => rfl
/-- a test that is one whatever the whole is -/
theorem pw_of {t : TT} {op : BoolOp} {xs : List Expr} (h : PT X (.BoolOp op xs pos) t) : PW X (.BoolOp op xs pos) t := ⟨fun wh pins s σ H Q I q => h.run pins s σ H Q I q⟩
theorem pw_and_ {x y : Expr} {r : List Expr} (ha : PT X x (tT g W (thr fa))) (hb : PW X (.BoolOp .And (y :: r) pos) (tT g W (thr fb))) : PT X (.BoolOp .And (x :: y :: r) pos) (tT g W (thr (fAnd fa fb))) :=
  PT.imp (pw_and ha hb).pt fun σ H Q ⟨ι, ρ, s, re, rs, w⟩ => by
    rw [thr_and] at w
    exact ⟨ι, ρ, s, re, rs, wp_cond w (fun x s1 ι1 H1 _ x1 rs1 w1 => by rw [if_pos rfl]; exact ⟨ι1, ρ, s1, re.ext rs x1, rs1, w1⟩)
      fun x s1 ι1 H1 _ x1 rs1 w1 => by rw [if_neg Bool.false_ne_true]; exact w1 ι1 H1 false Ext.refl rs1 rfl⟩
theorem pw_or_ {x y : Expr} {r : List Expr} (ha : PT X x (tT g W (thr fa))) (hb : PW X (.BoolOp .Or (y :: r) pos) (tT g W (thr fb))) : PT X (.BoolOp .Or (x :: y :: r) pos) (tT g W (thr (fOr fa fb))) :=
  PT.imp (pw_or ha hb).pt fun σ H Q ⟨ι, ρ, s, re, rs, w⟩ => by
    rw [thr_or] at w
    exact ⟨ι, ρ, s, re, rs, wp_cond w (fun x s1 ι1 H1 _ x1 rs1 w1 => by rw [if_pos rfl]; exact w1 ι1 H1 true Ext.refl rs1 rfl)
      fun x s1 ι1 H1 _ x1 rs1 w1 => by rw [if_neg Bool.false_ne_true]; exact ⟨ι1, ρ, s1, re.ext rs x1, rs1, w1⟩⟩
theorem pt_not_ {x : Expr} (ha : PT X x (tT g W (thr fa))) : PT X (.UnaryOp .Not x pos) (tT g W (thr (fNot fa))) :=
  PT.imp (pt_not ha) fun σ H Q ⟨ι, ρ, s, re, rs, w⟩ => by
    rw [thr_not] at w
    exact ⟨ι, ρ, s, re, rs, Wp.step (RA := rlB) w fun b s1 ι1 H1 v x1 rs1 r1 w1 => by
      have e : b = v := r1
      subst e
      exact w1 ι1 H1 _ Ext.refl rs1 rfl⟩
theorem pe_ite_ {x y z : Expr} (hc : PT X x (tT g W (thr fc))) (ha : PE X y (tE g W fa)) (hb : PE X z (tE g W fb)) : PE X (.IfExp x y z pos) (tE g W (fIte fc fa fb)) :=
  PE.imp (pe_ifExp hc ha hb) fun σ H Q ⟨ι, ρ, s, re, rs, w⟩ =>
    ⟨ι, ρ, s, re, rs, wp_cond (RB := rlT g) (Q := Q) w (fun x s1 ι1 H1 _ x1 rs1 w1 => by rw [if_pos rfl]; exact ⟨ι1, ρ, s1, re.ext rs x1, rs1, w1⟩)
      fun x s1 ι1 H1 _ x1 rs1 w1 => by rw [if_neg Bool.false_ne_true]; exact ⟨ι1, ρ, s1, re.ext rs x1, rs1, w1⟩⟩
theorem pt_ifExp {x y z : Expr} {tc ta tb' : TT} (hc : PT X x tc) (ha : PT X y ta) (hb : PT X z tb') : PT X (.IfExp x y z pos) (fun σ H Q => tc σ H fun c H1 => if c = true then ta σ H1 Q else tb' σ H1 Q) := by
  refine ⟨fun pins s σ H Q I h => ?_⟩
  show wpAny _ _ (do if ← PySem.isTrue x X.env (eval x X.env) then PySem.isTrue y X.env (eval y X.env) else PySem.isTrue z X.env (eval z X.env)) _ _ _
  refine wpAny_bind (thn (hc.run pins s σ H _ I h) fun d s1 ⟨H1, I1, q1⟩ => ?_)
  cases d with
  | true => exact ha.run pins s1 σ H1 Q I1 q1
  | false => exact hb.run pins s1 σ H1 Q I1 q1
theorem pt_ite_ {x y z : Expr} (hc : PT X x (tT g W (thr fc))) (ha : PT X y (tT g W (thr fa))) (hb : PT X z (tT g W (thr fb))) : PT X (.IfExp x y z pos) (tT g W (thr (fIte fc fa fb))) :=
  PT.imp (pt_ifExp hc ha hb) fun σ H Q ⟨ι, ρ, s, re, rs, w⟩ => by
    rw [thr_ite] at w
    exact ⟨ι, ρ, s, re, rs, wp_cond w (fun x s1 ι1 H1 _ x1 rs1 w1 => by rw [if_pos rfl]; exact ⟨ι1, ρ, s1, re.ext rs x1, rs1, w1⟩)
      fun x s1 ι1 H1 _ x1 rs1 w1 => by rw [if_neg Bool.false_ne_true]; exact ⟨ι1, ρ, s1, re.ext rs x1, rs1, w1⟩⟩

/-! ### two values -/
def f2 (op : T → T → Sto → Option T) (fa fb : Env → Sto → R T) : Env → Sto → R T := fun ρ s => (fa ρ s).bind fun x s => (fb ρ s).bind fun y s => ofO (op x y s) s
/-- the reading of an operation on two values -/
theorem two_ok {op : T → T → Sto → Option T} {Q : VK} (h : tE g W (f2 op fa fb) σ H Q) : tOp (rO2 g op) (tE g W fa) (tE g W fb) σ H Q := by
  obtain ⟨ι, ρ, s, re, rs, w⟩ := h
  refine ⟨ι, ρ, s, re, rs, Wp.step (RA := rlT g) w fun x s1 ι1 H1 v x1 rs1 r1 w1 => ?_⟩
  refine ⟨ι1, ρ, s1, re.ext rs x1, rs1, Wp.step (RA := rlT g) w1 fun y s2 ι2 H2 u x2 rs2 r2 w2 => ?_⟩
  exact ⟨ι2, s2, x, y, rs2, r1.1.ext rs1 x2, r2.1, w2.opt⟩
theorem pe_bin_ {op : Bop} (hK : X.K = g.K) (ha : PE X a (tE g W fa)) (hb : PE X b (tE g W fb)) : PE X (.BinOp a (opOf op) b pos) (tE g W (f2 (binT op) fa fb)) :=
  PE.imp (pe_op (bin_ok hK op) ha hb) fun σ H Q h => two_ok h
def fCmp (op : Cop) : T → T → Sto → Option T := fun x y s => (cmpT op x y s).map fun b => .v (.bl b)
theorem pe_cmp_ {op : Cop} (hK : X.K = g.K) (hu : X.A.units + 65 < cLine) (ha : PE X a (tE g W fa)) (hb : PE X b (tE g W fb)) (hm : behindInMarks (cmpOf op) b = false) : PE X (.Compare a [cmpOf op] [b] pos) (tE g W (f2 (fCmp op) fa fb)) :=
  PE.imp (pe_cmpR (cmp_ok hK hu op) ha hb hm) fun σ H Q h => two_ok h
theorem pt_cmp_ {op : Cop} (hK : X.K = g.K) (hu : X.A.units + 65 < cLine) (ha : PE X a (tE g W fa)) (hb : PE X b (tE g W fb)) (hm : behindInMarks (cmpOf op) b = false) : PT X (.Compare a [cmpOf op] [b] pos) (tT g W (thr (f2 (fCmp op) fa fb))) :=
  PT.imp (pt_cmpR (cmp_ok hK hu op) ha hb hm) fun σ H Q ⟨ι, ρ, s, re, rs, w⟩ => two_ok ⟨ι, ρ, s, re, rs, by
    refine Wp.step0 (RA := rlT g) w fun t s1 ι1 H1 v h1 x1 rs1 r1 w0 => ?_
    -- what a comparison gives is a bool
    have hb : ∃ b, t = .v (.bl b) := by
      unfold f2 at h1
      cases hx : fa ρ s with
      | ok x s2 =>
        rw [hx] at h1
        simp only [R.bind_ok] at h1
        cases hy : fb ρ s2 with
        | ok y s3 =>
          rw [hy] at h1
          simp only [R.bind_ok] at h1
          cases hc : cmpT op x y s3 with
          | none => rw [hc] at h1; simp at h1
          | some b => rw [hc] at h1; simp at h1; exact ⟨b, h1.1.symm⟩
        | ex _ _ => rw [hy] at h1; simp at h1
        | bad => rw [hy] at h1; simp at h1
      | ex _ _ => rw [hx] at h1; simp at h1
      | bad => rw [hx] at h1; simp at h1
    obtain ⟨b, rfl⟩ := hb
    cases r1.1.bl_
    exact ⟨b, rfl, (Wp.shift (RB := rlB) (m := .ok b s1) w0 x1) ι1 H1 b Ext.refl rs1 rfl⟩⟩
theorem pe_idx_ (hK : X.K = g.K) (ha : PE X a (tE g W fa)) (hb : PE X b (tE g W fb)) (hs : PlainIx b) : PE X (.Subscript a b pos) (tE g W (f2 idxT fa fb)) :=
  PE.imp (pe_ix (idx_ok hK) ha hb hs) fun σ H Q h => two_ok h
theorem pe_neg_ (ha : PE X a (tE g W fa)) : PE X (.UnaryOp .USub a pos) (tE g W fun ρ s => (fa ρ s).bind fun x s => match x with | .v (.int i) => .ok (.v (.int (-i))) s | _ => .bad) :=
  PE.imp (pe_un un_neg ha) fun σ H Q ⟨ι, ρ, s, re, rs, w⟩ => ⟨ι, ρ, s, re, rs, Wp.step (RA := rlT g) w fun x s1 ι1 H1 v x1 rs1 r1 w1 => by
    cases x with
    | l _ => exact w1.elim
    | v d =>
      cases d with
      | int i => cases r1.1.int_; exact ⟨i, rfl, w1 ι1 H1 _ Ext.refl rs1 (rlT.v (.int _))⟩
      | _ => exact w1.elim⟩
end
end Fy
end
section
set_option Elab.async false
set_option linter.all false
set_option maxRecDepth 100000
set_option maxHeartbeats 2000000
/-! Fy9: displays, arguments, calls, comprehensions. -/
namespace Fy
open PySem PySem.Spec PyProof.Rows L2
section
variable {g : Glo} {W : WX} {X : Cx} {σ : L2.St} {ι : List Addr} {H : Hp} {s : Sto} {e a b c : Expr} {f fa fb fc : Env → Sto → R T} {pos : Pos}

/-! ### a op b op' c -/
def fChain (op op' : Cop) (fa fb fc : Env → Sto → R T) : Env → Sto → R T := fun ρ s => (fa ρ s).bind fun x s => (fb ρ s).bind fun y s =>
  match cmpT op x y s with
  | some true => (fc ρ s).bind fun z s => ofO ((cmpT op' y z s).map fun b => .v (.bl b)) s
  | some false => .ok (.v (.bl false)) s
  | none => .bad
theorem chain_ok {op op' : Cop} {Q : VK} (h : tE g W (fChain op op' fa fb fc) σ H Q) : tChain (rO2 g (fCmp op)) (rO2 g (fCmp op')) (tE g W fa) (tE g W fb) (tE g W fc) σ H Q := by
  obtain ⟨ι, ρ, s, re, rs, w⟩ := h
  refine ⟨ι, ρ, s, re, rs, Wp.step (RA := rlT g) w fun x s1 ι1 H1 v x1 rs1 r1 w1 => ?_⟩
  refine ⟨ι1, ρ, s1, re.ext rs x1, rs1, Wp.step (RA := rlT g) w1 fun y s2 ι2 H2 u x2 rs2 r2 w2 => ?_⟩
  cases hc : cmpT op x y s2 with
  | none => rw [hc] at w2; exact w2.elim
  | some k =>
    rw [hc] at w2
    refine ⟨ι2, s2, x, y, rs2, r1.1.ext rs1 x2, r2.1, .v (.bl k), by simp [fCmp, hc], fun ι3 H3 z x3 rs3 r3 => ?_⟩
    cases r3.1.bl_
    refine ⟨k, rfl, ?_⟩
    cases k with
    | false =>
      rw [if_neg Bool.false_ne_true]
      exact (Wp.shift (RB := rlT g) (m := .ok (.v (.bl false)) s2) w2 x3) ι3 H3 _ Ext.refl rs3 (rlT.v (.bl _))
    | true =>
      rw [if_pos rfl]
      refine ⟨ι3, ρ, s2, (re.ext rs (x1.trans x2)).ext rs2 x3, rs3, Wp.step (RA := rlT g) (Wp.shift w2 x3) fun z s3 ι4 H4 q x4 rs4 r4 w4 => ?_⟩
      exact ⟨ι4, s3, y, z, rs4, (r2.1.ext rs2 x3).ext rs3 x4, r4.1, w4.opt⟩
theorem pe_chain_ {op op' : Cop} (hK : X.K = g.K) (hu : X.A.units + 65 < cLine) (ha : PE X a (tE g W fa)) (hb : PE X b (tE g W fb)) (hc : PE X c (tE g W fc)) (hm : lastMarks [cmpOf op, cmpOf op'] [b, c] = false) :
    PE X (.Compare a [cmpOf op, cmpOf op'] [b, c] pos) (tE g W (fChain op op' fa fb fc)) :=
  PE.imp (pe_chain (cmp_ok hK hu op) (cmp_ok hK hu op') ha hb hc hm) fun σ H Q h => chain_ok h
theorem chain_bl {op op' : Cop} {ρ : Env} {t : T} {s1 : Sto} (h : fChain op op' fa fb fc ρ s = .ok t s1) : ∃ b, t = .v (.bl b) := by
  unfold fChain at h
  cases hx : fa ρ s with
  | ok x s2 =>
    rw [hx] at h
    simp only [R.bind_ok] at h
    cases hy : fb ρ s2 with
    | ok y s3 =>
      rw [hy] at h
      simp only [R.bind_ok] at h
      cases hc : cmpT op x y s3 with
      | none => rw [hc] at h; simp at h
      | some b =>
        rw [hc] at h
        cases b with
        | false => simp at h; exact ⟨_, h.1.symm⟩
        | true =>
          simp only at h
          cases hz : fc ρ s3 with
          | ok z s4 =>
            rw [hz] at h
            simp only [R.bind_ok] at h
            cases hd : cmpT op' y z s4 with
            | none => rw [hd] at h; simp at h
            | some b => rw [hd] at h; simp at h; exact ⟨b, h.1.symm⟩
          | ex _ _ => rw [hz] at h; simp at h
          | bad => rw [hz] at h; simp at h
    | ex _ _ => rw [hy] at h; simp at h
    | bad => rw [hy] at h; simp at h
  | ex _ _ => rw [hx] at h; simp at h
  | bad => rw [hx] at h; simp at h
theorem pt_chain_ {op op' : Cop} (hK : X.K = g.K) (hu : X.A.units + 65 < cLine) (ha : PE X a (tE g W fa)) (hb : PE X b (tE g W fb)) (hc : PE X c (tE g W fc)) (hm : lastMarks [cmpOf op, cmpOf op'] [b, c] = false) :
    PT X (.Compare a [cmpOf op, cmpOf op'] [b, c] pos) (tT g W (thr (fChain op op' fa fb fc))) :=
  PT.imp (pt_chain (cmp_ok hK hu op) (cmp_ok hK hu op') ha hb hc hm) fun σ H Q ⟨ι, ρ, s, re, rs, w⟩ => chain_ok ⟨ι, ρ, s, re, rs, Wp.step0 (RA := rlT g) w fun t s1 ι1 H1 v h1 x1 rs1 r1 w0 => by
    obtain ⟨b, rfl⟩ := chain_bl h1
    cases r1.1.bl_
    exact ⟨b, rfl, (Wp.shift (RB := rlB) (m := .ok b s1) w0 x1) ι1 H1 b Ext.refl rs1 rfl⟩⟩

/-! ### arguments -/
/-- kept: a list goes into the store -/
theorem wp_keep {α β : Type} {RB : Rl α β} {Q : β → Hp → Prop} {ρ : Env} {k : D → Sto → R α} {N : V → Hp → Prop}
    (h : Wp g W RB σ ι H ((fa ρ s).bind fun t s => (keepR t s).bind k) Q)
    (hk : ∀ d s1 ι1 H1 v, Ext ι H ι1 H1 → RS g ι1 s1 H1 → RD g ι1 H1 d v → Wp g W RB σ ι1 H1 (k d s1) Q → N v H1) : Wp g W (rlT g) σ ι H (fa ρ s) N :=
  Wp.step0 (RA := rlT g) h fun t s1 ι1 H1 v _ x1 rs1 r1 w0 => by
    obtain ⟨ι2, rs2, x2, rd⟩ := keep_ok rs1 x1 r1.1 r1.2
    exact hk _ _ ι2 H1 v x2 rs2 rd (Wp.shift w0 x2)
def aNil : Env → Sto → R (List D) := fun _ s => .ok [] s
def aCons (fa : Env → Sto → R T) (fs : Env → Sto → R (List D)) : Env → Sto → R (List D) := fun ρ s => (fa ρ s).bind fun t s => (keepR t s).bind fun d s => (fs ρ s).bind fun ds s => .ok (d :: ds) s
theorem pa_nil_ : PA X [] (tA g W aNil) := PA.imp pa_nil fun σ H Q ⟨ι, ρ, s, re, rs, w⟩ => w ι H [] Ext.refl rs .nil
theorem pa_cons_ {fs : Env → Sto → R (List D)} {es : List Expr} (ha : PE X e (tE g W fa)) (hr : PA X es (tA g W fs)) (hs : starEach (e :: es) X.env = (false, eval e X.env) :: starEach es X.env) : PA X (e :: es) (tA g W (aCons fa fs)) :=
  PA.imp (pa_cons ha hr hs) fun σ H Q ⟨ι, ρ, s, re, rs, w⟩ => ⟨ι, ρ, s, re, rs, wp_keep (RB := rlDs g) w fun d s1 ι1 H1 v x1 rs1 rd w1 =>
    ⟨ι1, ρ, s1, re.ext rs x1, rs1, Wp.step (RA := rlDs g) w1 fun ds s2 ι2 H2 vs x2 rs2 rds w2 => w2 ι2 H2 (v :: vs) Ext.refl rs2 (RDs.cons (rd.ext rs1 x2) rds)⟩⟩
def bNil : Env → Sto → R (List T) := fun _ s => .ok [] s
def bCons (fa : Env → Sto → R T) (fs : Env → Sto → R (List T)) : Env → Sto → R (List T) := fun ρ s => (fa ρ s).bind fun t s => (fs ρ s).bind fun ts s => .ok (t :: ts) s
theorem pb_nil_ : PA X [] (tAT g W bNil) := PA.imp pa_nil fun σ H Q ⟨ι, ρ, s, re, rs, w⟩ => w ι H [] Ext.refl rs .nil
theorem pb_cons_ {fs : Env → Sto → R (List T)} {es : List Expr} (ha : PE X e (tE g W fa)) (hr : PA X es (tAT g W fs)) (hs : starEach (e :: es) X.env = (false, eval e X.env) :: starEach es X.env) : PA X (e :: es) (tAT g W (bCons fa fs)) :=
  PA.imp (pa_cons ha hr hs) fun σ H Q ⟨ι, ρ, s, re, rs, w⟩ => ⟨ι, ρ, s, re, rs, Wp.step (RA := rlT g) w fun t s1 ι1 H1 v x1 rs1 r1 w1 =>
    ⟨ι1, ρ, s1, re.ext rs x1, rs1, Wp.step (RA := rlTs g) w1 fun ts s2 ι2 H2 vs x2 rs2 rts w2 => w2 ι2 H2 (v :: vs) Ext.refl rs2 (RTs.cons (r1.1.ext rs1 x2) rts)⟩⟩

/-! ### displays -/
theorem pe_tup_ {fs : Env → Sto → R (List D)} {es : List Expr} {n : Nat} (h : PA X es (tA g W fs)) : PE X (.Tuple es n pos) (tE g W fun ρ s => (fs ρ s).bind fun xs s => if xs.length ≤ LIM then .ok (.v (.tup xs)) s else .bad) :=
  PE.imp (pe_tup h) fun σ H Q ⟨ι, ρ, s, re, rs, w⟩ => ⟨ι, ρ, s, re, rs, Wp.step (RA := rlDs g) w fun ds s1 ι1 H1 vs x1 rs1 rds w1 => by
    have hs : sizeLine = LIM := sizeLine_eq
    split at w1
    · rename_i hl
      exact ⟨by rw [hs, ← RDs.length rds]; exact hl, fun p hp => w1 ι1 _ _ (Ext.upd hp) (rs1.upd hp) (newT rs1 hp rds)⟩
    · exact w1.elim⟩
theorem pe_lst_ {fs : Env → Sto → R (List D)} {es : List Expr} (h : PA X es (tA g W fs)) : PE X (.List es pos) (tE g W fun ρ s => (fs ρ s).bind fun xs s => if xs.length ≤ LIM then .ok (.l xs) s else .bad) :=
  PE.imp (pe_lst h) fun σ H Q ⟨ι, ρ, s, re, rs, w⟩ => ⟨ι, ρ, s, re, rs, Wp.step (RA := rlDs g) w fun ds s1 ι1 H1 vs x1 rs1 rds w1 => by
    have hs : sizeLine = LIM := sizeLine_eq
    split at w1
    · rename_i hl
      exact ⟨by rw [hs, ← RDs.length rds]; exact hl, fun p hp => w1 ι1 _ _ (Ext.upd hp) (rs1.upd hp) (newL rs1 hp rds)⟩
    · exact w1.elim⟩

/-! ### slices -/
def rlO : Rl (Option Int) (Option Int) := ⟨fun _ _ _ a b => a = b, fun _ _ h => h⟩
def tO (g : Glo) (W : WX) (f : Env → Sto → R (Option Int)) : TO := fun σ H Q => ∃ ι ρ s, RE g ι H ρ σ ∧ RS g ι s H ∧ Wp g W rlO σ ι H (f ρ s) Q
theorem PO.imp {e : Option Expr} {t t' : TO} (h : PO X e t) (f : ∀ σ H Q, t' σ H Q → t σ H Q) : PO X e t' := ⟨fun pins s σ H Q I w => h.run pins s σ H Q I (f _ _ _ w)⟩
theorem po_none_ : PO X none (tO g W fun _ s => .ok none s) := PO.imp po_none fun σ H Q ⟨ι, ρ, s, re, rs, w⟩ => w ι H none Ext.refl rs rfl
theorem po_some_ (ha : PE X e (tE g W fa)) : PO X (some e) (tO g W fun ρ s => (fa ρ s).bind fun t s => match t with | .v (.int i) => .ok (some i) s | _ => .bad) :=
  PO.imp (po_some ha) fun σ H Q ⟨ι, ρ, s, re, rs, w⟩ => ⟨ι, ρ, s, re, rs, Wp.step (RA := rlT g) w fun x s1 ι1 H1 v x1 rs1 r1 w1 => by
    cases x with
    | l _ => exact w1.elim
    | v d =>
      cases d with
      | int i => cases r1.1.int_; exact ⟨i, rfl, w1 ι1 H1 _ Ext.refl rs1 rfl⟩
      | _ => exact w1.elim⟩
theorem pe_slc_ {fl fh : Env → Sto → R (Option Int)} {l h : Option Expr} {p2 : Pos} (hK : X.K = g.K) (ha : PE X e (tE g W fa)) (hl : PO X l (tO g W fl)) (hh : PO X h (tO g W fh)) :
    PE X (.Subscript e (.Slice l h none p2) pos) (tE g W fun ρ s => (fa ρ s).bind fun x s => (fl ρ s).bind fun lo s => (fh ρ s).bind fun hi s => ofO (slcT x lo hi s) s) :=
  PE.imp (pe_slice (slc_ok hK) ha hl hh) fun σ H Q ⟨ι, ρ, s, re, rs, w⟩ => ⟨ι, ρ, s, re, rs, Wp.step (RA := rlT g) w fun x s1 ι1 H1 v x1 rs1 r1 w1 =>
    ⟨ι1, ρ, s1, re.ext rs x1, rs1, Wp.step (RA := rlO) w1 fun lo s2 ι2 H2 lo' x2 rs2 e2 w2 =>
      ⟨ι2, ρ, s2, re.ext rs (x1.trans x2), rs2, Wp.step (RA := rlO) w2 fun hi s3 ι3 H3 hi' x3 rs3 e3 w3 => by
        have e2' : lo = lo' := e2
        have e3' : hi = hi' := e3
        subst e2' e3'
        exact ⟨ι3, s3, x, rs3, r1.1.ext rs1 (x2.trans x3), w3.opt⟩⟩⟩⟩

/-! ### calls -/
theorem fill_fill {d : Fn} {xs : List D} (hf : (d.fill xs).length = d.np) : d.fill (d.fill xs) = d.fill xs := by
  have z : ∀ ys : List D, ys.length = d.np → d.fill ys = ys := fun ys h => by
    unfold Fn.fill
    rw [h, Nat.add_sub_cancel, List.drop_length, List.append_nil]
  exact z _ hf
theorem callee {tb : Str → Option Fn} {wf k : Nat} {f : Str} {d : Fn} {xs : List D} (hd : tb f = some d) (hf : (d.fill xs).length = d.np) (s : Sto) : run tb wf k f (d.fill xs) s = run tb wf k f xs s := by
  cases k with
  | zero => rfl
  | succ k =>
    unfold run
    rw [hd]
    simp only
    rw [fill_fill hf]
theorem pe_call_ {tb : Str → Option Fn} {wf k : Nat} {fs : Env → Sto → R (List D)} {x : Str} {p : Pos} {y : Expr} {ys : List Expr} (cx : CtxA g tb wf k W X) (hg : Gl X x) (hx : okNm x = true) (har : arB tb x (ys.length + 1) = true) (ha : PA X (y :: ys) (tA g W fs))
    (hlen : ∀ ρ s ds s', fs ρ s = .ok ds s' → ds.length = ys.length + 1)
    (he : starEach (y :: ys) X.env = (false, eval y X.env) :: starEach ys X.env) (hpl : (backTo pos (starEach ys X.env)).any (·.1) = false) :
    PE X (.Call (.Name x p) (y :: ys) [] pos) (tE g W fun ρ s => (fs ρ s).bind fun xs s => run tb wf k x xs s) := by
  have hdb : (x == ("__debug__" : Str)) = false := by
    unfold okNm at hx
    simp only [Bool.and_eq_true, Bool.not_eq_true'] at hx
    exact hx.1
  unfold arB at har
  cases hd : tb x with
  | none => rw [hd] at har; cases har
  | some d =>
    rw [hd] at har
    simp only [Bool.and_eq_true, decide_eq_true_eq] at har
    obtain ⟨fa, fd, ps, F, hps, hm, hk, hb⟩ := (cx.calls x d hd).ok
    obtain ⟨dv, dvs, B, hv, hrd⟩ := hb (ys.length + 1) har.1 har.2
    rw [← cx.hK] at B hk
    refine PE.imp (pe_callSD (E := fun σ c d H => W c d σ H) (by rw [cx.hK]; exact F) cx.room hg hm hk B hv (fun σ => passAt cx.tk σ) ha hdb he hpl) fun σ H Q ⟨ι, ρ, s, re, rs, w⟩ => ?_
    refine ⟨ι, ρ, s, re, rs, Wp.step0 (RA := rlDs g) w fun ds s1 ι1 H1 vs h1 x1 rs1 rds w0 => ?_⟩
    have hl := hlen _ _ _ _ h1
    have efill : d.fill ds = ds ++ d.dv.drop (d.dv.length + (ys.length + 1) - d.np) := by unfold Fn.fill; rw [hl]
    have flen : (d.fill ds).length = d.np := by
      rw [efill, List.length_append, List.length_drop, hl]
      omega
    have rds2 : RDs g ι1 H1 (d.fill ds) (vs ++ dvs) := by rw [efill]; exact RDs.append rds (hrd ι1 H1)
    refine ⟨ι1, s1, d.fill ds, rs1, rds2, by rw [← rds2.length, flen], ?_⟩
    rw [callee hd flen]
    have w1 := Wp.shift w0 x1
    cases hr : run tb wf k x ds s1 with
    | ok a s' => rw [hr] at w1; exact w1
    | ex e s' => rw [hr] at w1; exact w1
    | bad => rw [hr] at w1; exact w1
/-- a built-in's call -/
theorem pe_bi_ {tb : Str → Option Fn} {wf k : Nat} {fs : Env → Sto → R (List T)} {f : Bi} {p : Pos} {y : Expr} {ys : List Expr} (cx : CtxA g tb wf k W X) (hg : Gl X (biName f)) (ha : PA X (y :: ys) (tAT g W fs))
    (he : starEach (y :: ys) X.env = (false, eval y X.env) :: starEach ys X.env) (hpl : (backTo pos (starEach ys X.env)).any (·.1) = false) :
    PE X (.Call (.Name (biName f) p) (y :: ys) [] pos) (tE g W fun ρ s => (fs ρ s).bind fun xs s => ofO (biT f xs s) s) := by
  have key : PE X (.Call (.Name (biName f) p) (y :: ys) [] pos) (tCB (rOB g f) (tAT g W fs)) := by
    have hc := bi_ok (X := X) cx.hK cx.calm f
    have hb := biBoot f
    have hm := cx.mgB f
    have h1 : biName f ≠ "__name__" := by cases f <;> decide +kernel
    have h2 : (biName f == ("__debug__" : Str)) = false := by cases f <;> decide +kernel
    cases f <;> first
      | exact pe_callB hc hg hm hb ha h1 h2 he hpl
      | exact pe_callTy hc hg hm hb ha h1 h2 he hpl
  refine PE.imp key fun σ H Q ⟨ι, ρ, s, re, rs, w⟩ => ⟨ι, ρ, s, re, rs, Wp.step (RA := rlTs g) w fun ts s1 ι1 H1 vs x1 rs1 rts w1 => ?_⟩
  exact ⟨ι1, s1, ts, rs1, rts, w1.opt⟩

/-! ### what is walked -/
theorem pi_seq_ {tg : Expr} (hK : X.K = g.K) (ha : PE X e (tE g W fa)) : PI X tg e (tI g W fun ρ s => (fa ρ s).bind fun t s => ofO (itemsOf t s) s) :=
  PI.imp (pi_seq ha) fun σ H R ⟨ι, ρ, s, re, rs, w⟩ => ⟨ι, ρ, s, re, rs, Wp.step (RA := rlT g) w fun t s1 ι1 H1 v x1 rs1 r1 w1 => by
    obtain ⟨I, e, q⟩ := w1.opt
    obtain ⟨a, ev, ht, hl⟩ := src_ok rs1 r1.1 e
    subst ev
    refine ⟨a, rfl, ?_⟩
    -- its lists stand now
    have st : stands I.src s1 = true := by
      unfold itemsOf at e
      split at e
      · cases e; rfl
      · cases e; rfl
      · cases e; rfl
      · simp only [Option.map_eq_some_iff] at e
        obtain ⟨xs, e1, rfl⟩ := e
        simp [stands, e1]
      · cases e
    by_cases hx : ∃ xs, t = .v (.tup xs)
    · obtain ⟨vs, hq, _⟩ := ht hx ι1 H1 s1 Ext.refl rs1 st
      rw [hK]
      exact .inr ⟨⟨vs, hq⟩, q ι1 H1 _ Ext.refl rs1 (walks_tup (ht hx))⟩
    · have hx' : ∀ xs, t ≠ .v (.tup xs) := fun xs h => hx ⟨xs, h⟩
      obtain ⟨vs, hq, _⟩ := hl hx' ι1 H1 s1 Ext.refl rs1 st
      rw [hK]
      exact .inl ⟨⟨vs, hq⟩, q ι1 H1 _ Ext.refl rs1 (walks_list (hl hx'))⟩⟩
theorem RDs.one {d : D} {vs : List V} (r : RDs g ι H [d] vs) : ∃ v, vs = [v] ∧ RD g ι H d v := by
  cases r with | cons r t => cases t; exact ⟨_, rfl, r⟩
theorem RDs.two {d d' : D} {vs : List V} (r : RDs g ι H [d, d'] vs) : ∃ v w, vs = [v, w] ∧ RD g ι H d v ∧ RD g ι H d' w := by
  cases r with | cons r t => cases t with | cons r' t => cases t; exact ⟨_, _, rfl, r, r'⟩
theorem pi_rng1_ {tg : Expr} {p : Pos} {fs : Env → Sto → R (List D)} {y : Expr} (hg : Gl X "range") (hm : X.mg "range" = none) (ha : PA X [y] (tA g W fs)) (hl : ∀ ρ s ds s', fs ρ s = .ok ds s' → ds.length = 1) (hs : starEach [y] X.env = [(false, eval y X.env)]) :
    PI X tg (.Call (.Name "range" p) [y] [] pos) (tI g W fun ρ s => (fs ρ s).bind fun xs s => ofO (rangeOf xs) s) :=
  PI.imp (pi_range1 hg hm ha hs) fun σ H R ⟨ι, ρ, s, re, rs, w⟩ => ⟨ι, ρ, s, re, rs, Wp.step0 (RA := rlDs g) w fun ds s1 ι1 H1 vs h1 x1 rs1 rds w0 => by
    obtain ⟨I, e, q⟩ := (Wp.shift w0 x1).opt
    match ds, hl _ _ _ _ h1, e with
    | [.int j], _, e =>
      obtain ⟨v, rfl, r⟩ := RDs.one rds
      cases r.int_
      have e' : rangeD 0 j = some I := e
      have bd : -(2 ^ 62) ≤ j ∧ j < 2 ^ 62 := by
        unfold rangeD at e'
        split at e'
        · rename_i hc; exact ⟨hc.2.2.1, hc.2.2.2⟩
        · cases e'
      exact ⟨j, rfl, bd.1, bd.2, q ι1 H1 _ Ext.refl rs1 (walks_rng e' (by simp))⟩
    | [.non], _, e | [.bl _], _, e | [.str _], _, e | [.tup _], _, e | [.fro _], _, e | [.loc _], _, e | [.ty _], _, e | [.gl _], _, e => cases e⟩
theorem pi_rng2_ {tg : Expr} {p : Pos} {fs : Env → Sto → R (List D)} {y z : Expr} (hg : Gl X "range") (hm : X.mg "range" = none) (ha : PA X [y, z] (tA g W fs)) (hl : ∀ ρ s ds s', fs ρ s = .ok ds s' → ds.length = 2)
    (hs : starEach [y, z] X.env = [(false, eval y X.env), (false, eval z X.env)]) (hs2 : starEach [z] X.env = [(false, eval z X.env)]) :
    PI X tg (.Call (.Name "range" p) [y, z] [] pos) (tI g W fun ρ s => (fs ρ s).bind fun xs s => ofO (rangeOf xs) s) :=
  PI.imp (pi_range2 hg hm ha hs hs2) fun σ H R ⟨ι, ρ, s, re, rs, w⟩ => ⟨ι, ρ, s, re, rs, Wp.step0 (RA := rlDs g) w fun ds s1 ι1 H1 vs h1 x1 rs1 rds w0 => by
    obtain ⟨I, e, q⟩ := (Wp.shift w0 x1).opt
    match ds, hl _ _ _ _ h1, e with
    | [a, b], _, e =>
      obtain ⟨i, j, rfl, rfl⟩ : ∃ i j, a = .int i ∧ b = .int j := by
        cases a <;> cases b <;> first | exact ⟨_, _, rfl, rfl⟩ | cases e
      obtain ⟨v, w, rfl, r, r'⟩ := RDs.two rds
      cases r.int_
      cases r'.int_
      have e' : rangeD i j = some I := e
      have bd : -(2 ^ 62) ≤ i ∧ i < 2 ^ 62 ∧ -(2 ^ 62) ≤ j ∧ j < 2 ^ 62 := by
        unfold rangeD at e'
        split at e'
        · rename_i hc; exact hc
        · cases e'
      exact ⟨i, j, rfl, bd, q ι1 H1 _ Ext.refl rs1 (walks_rng e' rfl)⟩⟩
end
end Fy
end
section
set_option Elab.async false
set_option linter.all false
set_option maxRecDepth 100000
set_option maxHeartbeats 2000000
/-! FyA: zip, enumerate, comprehensions; all expressions together. -/
namespace Fy
open PySem PySem.Spec PyProof.Rows L2
section
variable {g : Glo} {W : WX} {X : Cx} {σ : L2.St} {ι : List Addr} {H : Hp} {s : Sto} {e a b c : Expr} {f fa fb fc : Env → Sto → R T} {pos : Pos}

theorem stand_now {t : T} {I : Items} (e : itemsOf t s = some I) : stands I.src s = true := by
  unfold itemsOf at e
  split at e
  · cases e; rfl
  · cases e; rfl
  · cases e; rfl
  · simp only [Option.map_eq_some_iff] at e
    obtain ⟨xs, e1, rfl⟩ := e
    simp [stands, e1]
  · cases e
theorem stands_app {a b : List (Nat × List D)} (h : stands (a ++ b) s = true) : stands a s = true ∧ stands b s = true := by
  simpa [stands, List.all_append, Bool.and_eq_true] using h
theorem two_args (F : T → T → Sto → R Items) (ρ : Env) : ((fa ρ s).bind fun x s => (fb ρ s).bind fun y s => F x y s) = (bCons fa (bCons fb bNil) ρ s).bind fun ts s => match ts with | [x, y] => F x y s | _ => .bad := by
  unfold bCons bNil
  cases fa ρ s with
  | ok x s1 =>
    simp only [R.bind_ok]
    cases fb ρ s1 with
    | ok y s2 => rfl
    | ex _ _ => rfl
    | bad => rfl
  | ex _ _ => rfl
  | bad => rfl
theorem one_arg (F : T → Sto → R Items) (ρ : Env) : ((fa ρ s).bind fun x s => F x s) = (bCons fa bNil ρ s).bind fun ts s => match ts with | [x] => F x s | _ => .bad := by
  unfold bCons bNil
  cases fa ρ s with
  | ok x s1 => rfl
  | ex _ _ => rfl
  | bad => rfl
theorem zip_cases {x y : T} {I : Items} (e : zipOf x y s = some I) : (∃ xs ys, x = .v (.tup xs) ∧ y = .v (.tup ys) ∧ I = ⟨(xs.zip ys).map fun p => .tup [p.1, p.2], []⟩) ∨
    ((∀ xs, x ≠ .v (.tup xs)) ∧ (∀ ys, y ≠ .v (.tup ys)) ∧ ∃ I1 I2, itemsOf x s = some I1 ∧ itemsOf y s = some I2 ∧ I = ⟨(I1.xs.zip I2.xs).map fun p => .tup [p.1, p.2], I1.src ++ I2.src⟩) := by
  have gen : (∀ xs, x ≠ .v (.tup xs)) → (∀ ys, y ≠ .v (.tup ys)) → ((itemsOf x s).bind fun p => (itemsOf y s).map fun q => (⟨(p.xs.zip q.xs).map fun p => .tup [p.1, p.2], p.src ++ q.src⟩ : Items)) = some I →
      (∃ I1 I2, itemsOf x s = some I1 ∧ itemsOf y s = some I2 ∧ I = ⟨(I1.xs.zip I2.xs).map fun p => .tup [p.1, p.2], I1.src ++ I2.src⟩) := fun _ _ e => by
    simp only [Option.bind_eq_some_iff, Option.map_eq_some_iff] at e
    obtain ⟨I1, e1, I2, e2, e3⟩ := e
    exact ⟨I1, I2, e1, e2, e3.symm⟩
  by_cases hx : ∃ xs, x = .v (.tup xs)
  · obtain ⟨xs, rfl⟩ := hx
    by_cases hy : ∃ ys, y = .v (.tup ys)
    · obtain ⟨ys, rfl⟩ := hy
      cases e
      exact .inl ⟨xs, ys, rfl, rfl, rfl⟩
    · cases y with
      | l _ => cases e
      | v d => cases d <;> first | (exact absurd ⟨_, rfl⟩ hy) | cases e
  · have nx : ∀ xs, x ≠ .v (.tup xs) := fun xs h => hx ⟨xs, h⟩
    by_cases hy : ∃ ys, y = .v (.tup ys)
    · obtain ⟨ys, rfl⟩ := hy
      cases x with
      | l _ => cases e
      | v d => cases d <;> first | (exact absurd ⟨_, rfl⟩ hx) | cases e
    · have ny : ∀ xs, y ≠ .v (.tup xs) := fun xs h => hy ⟨xs, h⟩
      refine .inr ⟨nx, ny, gen nx ny ?_⟩
      cases x with
      | l _ =>
        cases y with
        | l _ => exact e
        | v d => cases d <;> first | (exact absurd ⟨_, rfl⟩ hy) | exact e
      | v d =>
        cases y with
        | l _ => cases d <;> first | (exact absurd ⟨_, rfl⟩ hx) | exact e
        | v d' => cases d <;> first | (exact absurd ⟨_, rfl⟩ hx) | (cases d' <;> first | (exact absurd ⟨_, rfl⟩ hy) | exact e)
theorem pi_zip_ {elts : List Expr} {kk : Nat} {tpos p : Pos} {y z : Expr} (hK : X.K = g.K) (hg : Gl X "zip") (hm : X.mg "zip" = none) (ha : PE X y (tE g W fa)) (hb : PE X z (tE g W fb)) (h1 : notStar y = true) (h2 : notStar z = true) :
    PI X (.Tuple elts kk tpos) (.Call (.Name "zip" p) [y, z] [] pos) (tI g W fun ρ s => (fa ρ s).bind fun x s => (fb ρ s).bind fun y s => ofO (zipOf x y s) s) :=
  PI.imp (RZ.pi_zipA hg hm (pb_cons_ ha (pb_cons_ hb pb_nil_ (star_of h2 _ _)) (star_of h1 _ _)) (star_of h1 _ _) (by rw [star_of h2]; rfl)) fun σ H R ⟨ι, ρ, s, re, rs, w⟩ => by
    dsimp only at w
    rw [two_args (fun x y s => ofO (zipOf x y s) s)] at w
    refine ⟨ι, ρ, s, re, rs, Wp.step (RA := rlTs g) w fun ts s1 ι1 H1 vs x1 rs1 rts w1 => ?_⟩
    match ts, rts, w1 with
    | [x, y], rts, w1 =>
      obtain ⟨v, u, rfl, r1, r2⟩ := RTs.two rts
      obtain ⟨I, e, q⟩ := w1.opt
      rw [hK]
      rcases zip_cases e with ⟨xs, ys, rfl, rfl, rfl⟩ | ⟨n1', n2', I1, I2, e1, e2, rfl⟩
      · obtain ⟨p, vs, rfl, hp, dp⟩ := r1.tup_
        obtain ⟨p', ws, rfl, hp', dp'⟩ := r2.tup_
        exact ⟨p, p', vs, ws, rfl, .inr ⟨hp, hp', q ι1 H1 _ Ext.refl rs1 (walks_zipT fun ι2 H2 s2 x2 rs2 _ => ⟨vs, ws, SqT.ext rs1 x2 hp, dp.ext rs1 x2, SqT.ext rs1 x2 hp', dp'.ext rs1 x2⟩)⟩⟩
      · obtain ⟨p, rfl, _, hl⟩ := src_ok rs1 r1 e1
        obtain ⟨p', rfl, _, hl'⟩ := src_ok rs1 r2 e2
        obtain ⟨vs, hq, _⟩ := hl n1' ι1 H1 s1 Ext.refl rs1 (stand_now e1)
        obtain ⟨ws, hq', _⟩ := hl' n2' ι1 H1 s1 Ext.refl rs1 (stand_now e2)
        refine ⟨p, p', vs, ws, rfl, .inl ⟨hq, hq', q ι1 H1 _ Ext.refl rs1 (walks_zipL fun ι2 H2 s2 x2 rs2 st => ?_)⟩⟩
        obtain ⟨st1, st2⟩ := stands_app st
        obtain ⟨vs', h1, d1⟩ := hl n1' ι2 H2 s2 x2 rs2 st1
        obtain ⟨ws', h2, d2⟩ := hl' n2' ι2 H2 s2 x2 rs2 st2
        exact ⟨vs', ws', h1, d1, h2, d2⟩
    | [], _, w1 => exact w1.elim
    | [_], _, w1 => exact w1.elim
    | _ :: _ :: _ :: _, _, w1 => exact w1.elim
theorem pi_enum_ {elts : List Expr} {kk : Nat} {tpos p : Pos} {y : Expr} (hK : X.K = g.K) (hg : Gl X "enumerate") (hm : X.mg "enumerate" = none) (ha : PE X y (tE g W fa)) (h1 : notStar y = true) :
    PI X (.Tuple elts kk tpos) (.Call (.Name "enumerate" p) [y] [] pos) (tI g W fun ρ s => (fa ρ s).bind fun t s => ofO (enumOf t s) s) :=
  PI.imp (pi_enum hg hm (pb_cons_ ha pb_nil_ (star_of h1 _ _)) (by rw [star_of h1]; rfl)) fun σ H R ⟨ι, ρ, s, re, rs, w⟩ => by
    dsimp only at w
    rw [one_arg (fun t s => ofO (enumOf t s) s)] at w
    refine ⟨ι, ρ, s, re, rs, Wp.step (RA := rlTs g) w fun ts s1 ι1 H1 vs x1 rs1 rts w1 => ?_⟩
    match ts, rts, w1 with
    | [x], rts, w1 =>
      obtain ⟨v, rfl, r1⟩ := RTs.one rts
      obtain ⟨I, e, q⟩ := w1.opt
      rw [hK]
      unfold enumOf at e
      split at e
      · cases e
      · rename_i n1
        simp only [Option.map_eq_some_iff] at e
        obtain ⟨I1, e1, rfl⟩ := e
        obtain ⟨p, rfl, _, hl⟩ := src_ok rs1 r1 e1
        have n1' : ∀ xs, x ≠ .v (.tup xs) := fun xs hx => n1 xs hx
        obtain ⟨vs, hq, _⟩ := hl n1' ι1 H1 s1 Ext.refl rs1 (stand_now e1)
        exact ⟨p, vs, rfl, hq, q ι1 H1 _ Ext.refl rs1 (walks_enum (hl n1'))⟩
    | [], _, w1 => exact w1.elim
    | _ :: _ :: _, _, w1 => exact w1.elim

/-! ### comprehensions -/
/-- a list that the comprehension fills, outside of the store -/
theorem RD.tmp {D0 : Addr} {vs : List V} {ys : List V} {d : D} {v : V} (h : H D0 = some (.lst vs)) (r : RD g ι H d v) : RD g ι (upd H D0 (.lst ys)) d v :=
  r.imp (fun _ _ q => q) (fun a ws q => by
    have ne : a ≠ D0 := by
      rintro rfl
      rcases q with q | ⟨o, q⟩ <;> (rw [h] at q; cases q)
    rcases q with q | ⟨o, q⟩
    · exact .inl (by rw [upd_ne ne]; exact q)
    · exact .inr ⟨o, by rw [upd_ne ne]; exact q⟩)
    (fun a o ws q => by
      have ne : a ≠ D0 := by
        rintro rfl
        rw [h] at q; cases q
      rw [upd_ne ne]; exact q)
theorem RDs.tmp {D0 : Addr} {vs : List V} {ys : List V} {d : List D} {v : List V} (h : H D0 = some (.lst vs)) (r : RDs g ι H d v) : RDs g ι (upd H D0 (.lst ys)) d v :=
  r.imp (fun _ _ q => q) (fun a ws q => by
    have ne : a ≠ D0 := by
      rintro rfl
      rcases q with q | ⟨o, q⟩ <;> (rw [h] at q; cases q)
    rcases q with q | ⟨o, q⟩
    · exact .inl (by rw [upd_ne ne]; exact q)
    · exact .inr ⟨o, by rw [upd_ne ne]; exact q⟩)
    (fun a o ws q => by
      have ne : a ≠ D0 := by
        rintro rfl
        rw [h] at q; cases q
      rw [upd_ne ne]; exact q)
theorem RS.tmp {D0 : Addr} {vs : List V} {ys : List V} (rs : RS g ι s H) (h : H D0 = some (.lst vs)) (n : D0 ∉ ι) : RS g ι s (L2.upd H D0 (.lst ys)) := by
  refine ⟨rs.nd, rs.len, fun k o e => ?_⟩
  obtain ⟨a, ea, r⟩ := rs.at_ k o e
  have ne : a ≠ D0 := fun q => n (q ▸ List.mem_of_getElem? ea)
  refine ⟨a, ea, ?_⟩
  cases o with
  | lst xs => obtain ⟨ws, e1, r1⟩ := r; exact ⟨ws, by rw [upd_ne ne]; exact e1, r1.tmp h⟩
  | dic _ => exact r.elim
  | ins _ _ => exact r.elim

theorem pe_lc_ {elt tg' iter : Expr} {ifs : List Expr} {scope : Scope} {own : List (Str × Nat)} {tg : Tg} {fi : Env → Sto → R Items} {fc : Env → Sto → R Bool} {fe : Env → Sto → R T}
    (hK : X.K = g.K) (hc : X.calm = true) (hN : X.N.Nodup) (hi : PI X tg' iter (tI g W fi)) (ok : BlkOk X.N X.env.scope scope own) (hsl : ∀ i ∈ tg.slots, i ∈ own.map (·.2))
    (hg : ∀ (s : Shared) (H : Hp) (C : Addr) (cl : List (Str × Addr)) (fp : List Addr), PG (X.blk s H scope (compEnvC scope cl C X.env) fp) tg' (gE g tg))
    (ht : ∀ (s : Shared) (H : Hp) (C : Addr) (cl : List (Str × Addr)) (fp : List Addr), PTs (X.blk s H scope (compEnvC scope cl C X.env) fp) ifs (tT g noW fc))
    (he : ∀ (s : Shared) (H : Hp) (C : Addr) (cl : List (Str × Addr)) (fp : List Addr), PE (X.blk s H scope (compEnvC scope cl C X.env) fp) elt (tE g noW fe)) (hs : ∀ x, foldedSetIterable iter X.env x = pure x) :
    PE X (.ListComp elt [⟨tg', iter, ifs, 0⟩] scope pos) (tLc (tI g W fi) (gE g tg) (tT g noW fc) (tE g noW fe) (own.map (·.2))) := pe_lc hc hN hi ok hg ht he hs
/-- the reading of a comprehension -/
theorem lc_ok {vs : List Nat} {tg : Tg} {fi : Env → Sto → R Items} {fc : Env → Sto → R Bool} {fe : Env → Sto → R T} {Q : VK} (hsl : ∀ i ∈ tg.slots, i ∈ vs)
    (h : tE g W (fun ρ s => (fi ρ s).bind fun I s => lcLoop (lcF tg vs ρ fc fe) I.src I.xs [] s) σ H Q) : tLc (tI g W fi) (gE g tg) (tT g noW fc) (tE g noW fe) vs σ H Q := by
  obtain ⟨ι, ρ, s, re, rs, w⟩ := h
  have hsz : sizeLine = LIM := sizeLine_eq
  refine ⟨ι, ρ, s, re, rs, Wp.step (RA := rlI g) w fun I s1 ι1 H1 J x1 rs1 wk w1 => ?_⟩
  have wk' : Walks g ι1 H1 I J := wk
  intro D0 hD
  refine ⟨fun i m H' => m = I.xs.length - i ∧ i ≤ I.xs.length ∧ ∃ ι' s' acc vacc, Ext ι1 H1 ι' H' ∧ RS g ι' s' H' ∧ H' D0 = some (.lst vacc) ∧ D0 ∉ ι' ∧ RDs g ι' H' acc vacc ∧
    Wp g W (rlT g) σ ι1 H1 (lcLoop (lcF tg vs ρ fc fe) I.src (I.xs.drop i) acc s') Q, ⟨_, rfl, Nat.zero_le _, ι1, s1, [], [], Ext.upd hD, rs1.upd hD, upd_same, rs1.free hD, .nil, by simpa using w1⟩, ?_⟩
  rintro i m H' ⟨rfl, hi, ι', s', acc, vacc, x2, rs2, hD2, nD, racc, w2⟩
  by_cases hlt : i < I.xs.length
  · -- a turn
    obtain ⟨d, hd⟩ : ∃ d, I.xs[i]? = some d := ⟨I.xs[i], by simp [hlt]⟩
    have hdrop : I.xs.drop i = d :: I.xs.drop (i + 1) := by
      rw [List.drop_eq_getElem_cons hlt]
      congr 1
      rw [List.getElem?_eq_getElem hlt] at hd
      exact Option.some.inj hd
    rw [hdrop] at w2
    unfold lcLoop at w2
    cases hst : stands I.src s' with
    | false => rw [hst] at w2; simp only [Bool.false_eq_true, if_false] at w2; exact w2.elim
    | true =>
      rw [hst] at w2
      simp only [if_true] at w2
      obtain ⟨go, _⟩ := wk' ι' H' s' i x2 rs2 hst
      obtain ⟨hgo, yl⟩ := go d hd
      refine .inr ⟨hgo, fun H3 => ∃ ι3 s3 acc3 vacc3, Ext ι1 H1 ι3 H3 ∧ RS g ι3 s3 H3 ∧ H3 D0 = some (.lst vacc3) ∧ D0 ∉ ι3 ∧ RDs g ι3 H3 acc3 vacc3 ∧
        Wp g W (rlT g) σ ι1 H1 (lcLoop (lcF tg vs ρ fc fe) I.src (I.xs.drop (i + 1)) acc3 s3) Q, fun H3 h3 => ⟨_, by omega, rfl, hlt, h3⟩, fun x H4 hy => ?_⟩
      obtain ⟨x4, rs4, rd⟩ := yl x H4 hy
      -- the target
      unfold lcF at w2
      cases hb : bindT tg d (wipeE ρ vs) with
      | none => rw [hb] at w2; exact w2.elim
      | some ρ' =>
        rw [hb] at w2
        simp only at w2
        have re4 : RE g ι' H4 (wipeE ρ vs) (wipe σ vs) := (re.ext rs ((x1.trans x2).trans x4)).wipe vs
        refine ⟨ι', _, s', d, ρ', re4, rs4, rd, hb, fun σ2 re2 hw => ⟨hw vs hsl |>.trans (wipe_wipe σ vs), ι', ρ', s', re2, rs4, ?_⟩⟩
        -- the test
        have hD4 : H4 D0 = some (.lst vacc) := x4.keep _ _ hD2 nD
        have racc4 := racc.ext rs2 x4
        cases hfc : fc ρ' s' with
        | bad => rw [hfc] at w2; exact w2.elim
        | ex _ _ => rw [hfc] at w2; exact w2.elim
        | ok b s5 =>
          rw [hfc] at w2
          simp only [R.bind_ok] at w2
          intro ι5 H5 b' x5 rs5 eb
          have eb' : b = b' := eb
          subst eb'
          have hD5 : H5 D0 = some (.lst vacc) := x5.keep _ _ hD4 nD
          have nD5 : D0 ∉ ι5 := x5.out hD4 nD
          have racc5 := racc4.ext rs4 x5
          have x15 : Ext ι1 H1 ι5 H5 := (x2.trans x4).trans x5
          cases b with
          | false =>
            simp only [Bool.false_eq_true, if_false] at w2 ⊢
            exact ⟨ι5, s5, acc, vacc, x15, rs5, hD5, nD5, racc5, w2⟩
          | true =>
            simp only [if_true] at w2 ⊢
            refine ⟨ι5, ρ', s5, re2.ext rs4 x5, rs5, ?_⟩
            cases hfe : fe ρ' s5 with
            | bad => rw [hfe] at w2; exact w2.elim
            | ex _ _ => rw [hfe] at w2; exact w2.elim
            | ok t s6 =>
              rw [hfe] at w2
              simp only [R.bind_ok, keepR] at w2
              intro ι6 H6 y x6 rs6 ry
              obtain ⟨ι7, rs7, x7, rd7⟩ := keep_ok rs6 x6 ry.1 ry.2
              have hD6 : H6 D0 = some (.lst vacc) := x7.keep _ _ hD5 nD5
              have nD7 : D0 ∉ ι7 := x7.out hD5 nD5
              split at w2
              · rename_i hlim
                refine ⟨vacc, hD6, by rw [hsz, ← racc5.length]; exact hlim, ι7, _, acc ++ [(t.keep s6).1], vacc ++ [y], ?_, rs7.tmp hD6 nD7, upd_same, nD7, ?_, w2⟩
                · have x17 := x15.trans x7
                  refine ⟨x17.pre, fun c o ec nc => ?_, x17.new⟩
                  rw [upd_ne (ne_of_none ec hD)]
                  exact x17.keep c o ec nc
                · exact ((racc5.ext rs5 x7).tmp hD6).append (.cons (rd7.tmp hD6) .nil)
              · exact w2.elim
  · -- the end
    have ei : i = I.xs.length := by omega
    subst ei
    rw [List.drop_length] at w2
    unfold lcLoop at w2
    cases hst : stands I.src s' with
    | false => rw [hst] at w2; simp only [Bool.false_eq_true, if_false] at w2; exact w2.elim
    | true =>
      rw [hst] at w2
      simp only [if_true] at w2
      exact .inl ⟨(wk' ι' H' s' _ x2 rs2 hst).2 (Nat.le_refl _), w2 ι' H' _ x2 rs2 ⟨.l hD2 nD racc, D0, rfl, hD⟩⟩
end
end Fy
end
section
set_option Elab.async false
set_option linter.all false
set_option maxRecDepth 100000
set_option maxHeartbeats 4000000
/-! FyB: all expressions together. -/
namespace Fy
open PySem PySem.Spec PyProof.Rows L2
section
variable {g : Glo} {tb : Str → Option Fn} {wf k : Nat}
theorem evEs_nil (cf : CallF) : evEs cf .nil = aNil := by funext ρ s; rw [evEs.eq_def]; rfl
theorem evEs_cons (cf : CallF) (e : E) (es : Es) : evEs cf (.cons e es) = aCons (evE cf e) (evEs cf es) := by funext ρ s; rw [evEs.eq_def]; rfl
theorem evTs_nil (cf : CallF) : evTs cf .nil = bNil := by funext ρ s; rw [evTs.eq_def]; rfl
theorem evTs_cons (cf : CallF) (e : E) (es : Es) : evTs cf (.cons e es) = bCons (evE cf e) (evTs cf es) := by funext ρ s; rw [evTs.eq_def]; rfl
theorem args_len {tb : Str → Option Fn} {sc : Scope} {fb : Str → Bool} {N : List Str} {cf : CallF} : ∀ {es : Es} {xs : List Expr}, ckEs tb sc fb N es xs = true → ∀ ρ s ds s', evEs cf es ρ s = .ok ds s' → ds.length = xs.length
  | .nil, [], _, ρ, s, ds, s', h => by
    rw [evEs_nil] at h
    unfold aNil at h
    simp at h
    rw [h.1]; rfl
  | .cons e es, x :: xs, hc, ρ, s, ds, s', h => by
    simp only [ckEs, Bool.and_eq_true] at hc
    rw [evEs_cons] at h
    unfold aCons at h
    cases h1 : evE cf e ρ s with
    | bad => rw [h1] at h; simp at h
    | ex _ _ => rw [h1] at h; simp at h
    | ok t s1 =>
      rw [h1] at h
      simp only [R.bind_ok, keepR] at h
      cases h2 : evEs cf es ρ (t.keep s1).2 with
      | bad => rw [h2] at h; simp at h
      | ex _ _ => rw [h2] at h; simp at h
      | ok ds' s2 =>
        rw [h2] at h
        simp at h
        rw [← h.1, List.length_cons, List.length_cons, args_len hc.2 _ _ _ _ h2]
  | .nil, _ :: _, h, _, _, _, _, _ => by simp [ckEs] at h
  | .cons _ _, [], h, _, _, _, _, _ => by simp [ckEs] at h
theorem scope_blk {X : Cx} {s : Shared} {H : Hp} {scope : Scope} {C : Addr} {cl : List (Str × Addr)} {fp : List Addr} : (X.blk s H scope (compEnvC scope cl C X.env) fp).env.scope = relS scope X.env.scope := rfl
theorem fn_blk {X : Cx} {s : Shared} {H : Hp} {scope : Scope} {C : Addr} {cl : List (Str × Addr)} {fp : List Addr} : (X.blk s H scope (compEnvC scope cl C X.env) fp).fn = fbOf scope := rfl
/-- both readings of an expression -/
def OkE (g : Glo) (W : WX) (X : Cx) (x : Expr) (f : Env → Sto → R T) : Prop := PE X x (tE g W f) ∧ PT X x (tT g W (thr f))
theorem OkE.plain {W : WX} {X : Cx} {x : Expr} {f : Env → Sto → R T} (hK : X.K = g.K) (h : PE X x (tE g W f)) (hp : ∀ whole, PySem.isTrue x X.env whole = (do let v ← whole; standAt x.pos; holding [v] (truthy v))) : OkE g W X x f := ⟨h, pt_of hK h hp⟩
theorem const_ok {W : WX} {X : Cx} {x : Expr} {d : D} {v : V} (h : PE X x (tC v)) (r : ∀ ι H, RD g ι H d v) : PE X x (tE g W fun _ s => .ok (.v d) s) :=
  PE.imp h fun σ H Q ⟨ι, ρ, s, re, rs, w⟩ => w ι H v Ext.refl rs (rlT.v (r ι H))
mutual
theorem okE : ∀ (e : E) (x : Expr) (W : WX) (X : Cx), CtxA g tb wf k W X → ckE tb X.env.scope X.fn X.N e x = true → OkE g W X x (evE (run tb wf k) e)
  | .var i, x, W, X, c, h => by
    cases x with
    | Name n p =>
      simp only [ckE, Bool.and_eq_true, decide_eq_true_eq] at h
      obtain ⟨⟨h1, h2⟩, h3⟩ := h
      unfold okNm at h3
      simp only [Bool.and_eq_true, Bool.not_eq_true'] at h3
      refine OkE.plain c.hK ?_ fun _ => rfl
      refine PE.imp (pe_var h1 (visB_ok h2) h3.1 h3.2) fun σ H Q ⟨ι, ρ, s, re, rs, w⟩ => ?_
      simp only [evE] at w
      cases hi : ρ[i]? with
      | none => rw [hi] at w; exact w.elim
      | some o =>
        cases o with
        | none => rw [hi] at w; exact w.elim
        | some d =>
          rw [hi] at w
          obtain ⟨v, e, r⟩ := re.at_ i d hi
          exact ⟨v, e, w ι H v Ext.refl rs (rlT.v r)⟩
    | _ => simp [ckE] at h
  | .int n, x, W, X, c, h => by
    cases x with
    | Constant k j p =>
      cases k with
      | int m =>
        simp only [ckE, decide_eq_true_eq] at h
        subst h
        exact OkE.plain c.hK (const_ok pe_int fun _ _ => .int _) fun _ => rfl
      | _ => simp [ckE] at h
    | _ => simp [ckE] at h
  | .bl n, x, W, X, c, h => by
    cases x with
    | Constant k j p =>
      cases k with
      | bool m =>
        have h' : n = m := by simpa [ckE] using h
        subst h'
        exact OkE.plain c.hK (const_ok pe_bl fun _ _ => .bl _) fun _ => rfl
      | _ => simp [ckE] at h
    | _ => simp [ckE] at h
  | .non, x, W, X, c, h => by
    cases x with
    | Constant k j p =>
      cases k with
      | none => exact OkE.plain c.hK (const_ok pe_non fun _ _ => .non) fun _ => rfl
      | _ => simp [ckE] at h
    | _ => simp [ckE] at h
  | .str n, x, W, X, c, h => by
    cases x with
    | Constant k j p =>
      cases k with
      | str m =>
        simp only [ckE, decide_eq_true_eq] at h
        subst h
        exact OkE.plain c.hK (const_ok pe_str fun _ _ => .str _) fun _ => rfl
      | _ => simp [ckE] at h
    | _ => simp [ckE] at h
  | .tyn n t, x, W, X, c, h => by
    cases x with
    | Name m p =>
      simp only [ckE, Bool.and_eq_true, decide_eq_true_eq] at h
      obtain ⟨⟨rfl, h2⟩, h3⟩ := h
      have hn := tyNot _ h3
      exact OkE.plain c.hK (const_ok (pe_bltn (glB_ok h2) (c.mgT _ h3) (tyBoot _ h3) (show RelV (.ty t) (.type t) from rfl) hn.1 hn.2) fun _ _ => .ty _) fun _ => rfl
    | _ => simp [ckE] at h
  | .bin op a b, x, W, X, c, h => by
    cases x with
    | BinOp l o r p =>
      simp only [ckE, Bool.and_eq_true] at h
      obtain ⟨⟨h1, h2⟩, h3⟩ := h
      rw [opB_ok h1]
      exact OkE.plain c.hK (pe_bin_ c.hK (okE a l W X c h2).1 (okE b r W X c h3).1) fun _ => rfl
    | _ => simp [ckE] at h
  | .neg a, x, W, X, c, h => by
    cases x with
    | UnaryOp o l p =>
      cases o with
      | USub =>
        have h' : ckE tb X.env.scope X.fn X.N a l = true := by simpa [ckE] using h
        exact OkE.plain c.hK (pe_neg_ (okE a l W X c h').1) fun _ => rfl
      | _ => simp [ckE] at h
    | _ => simp [ckE] at h
  | .cmp op a b, x, W, X, c, h => by
    match x, h with
    | .Compare l [o] [r] p, h =>
      simp only [ckE, Bool.and_eq_true] at h
      obtain ⟨⟨h1, h2⟩, h3⟩ := h
      rw [cmpB_ok h1]
      have hu : X.A.units + 65 < cLine := by have := c.room.un; omega
      have hm := nomarks (ck_star h3) (cmpOf op)
      exact ⟨pe_cmp_ c.hK hu (okE a l W X c h2).1 (okE b r W X c h3).1 hm, pt_cmp_ c.hK hu (okE a l W X c h2).1 (okE b r W X c h3).1 hm⟩
  | .chain op op' a b d, x, W, X, c, h => by
    match x, h with
    | .Compare l [o, o'] [r, q] p, h =>
      simp only [ckE, Bool.and_eq_true] at h
      obtain ⟨⟨⟨⟨h1, h2⟩, h3⟩, h4⟩, h5⟩ := h
      rw [cmpB_ok h1, cmpB_ok h2]
      have hu : X.A.units + 65 < cLine := by have := c.room.un; omega
      have hm : lastMarks [cmpOf op, cmpOf op'] [r, q] = false := nomarks (ck_star h5) (cmpOf op')
      exact ⟨pe_chain_ c.hK hu (okE a l W X c h3).1 (okE b r W X c h4).1 (okE d q W X c h5).1 hm, pt_chain_ c.hK hu (okE a l W X c h3).1 (okE b r W X c h4).1 (okE d q W X c h5).1 hm⟩
  | .and2 a b, x, W, X, c, h => by
    match x, h with
    | .BoolOp .And (l :: r :: []) p, h =>
      simp only [ckE, Bool.and_eq_true] at h
      obtain ⟨pa, ta⟩ := okE a l W X c h.1
      obtain ⟨pb, tb'⟩ := okE b r W X c h.2
      exact ⟨pe_and_ c.hK pa (pe_one pb), pw_and_ ta (pw_and1 tb')⟩
    | .BoolOp .And (l :: r :: q :: qs) p, h =>
      simp only [ckE, Bool.and_eq_true] at h
      obtain ⟨pa, ta⟩ := okE a l W X c h.1
      obtain ⟨pb, tb'⟩ := okE b (.BoolOp .And (r :: q :: qs) p) W X c h.2
      exact ⟨pe_and_ c.hK pa pb, pw_and_ ta (pw_of tb')⟩
  | .or2 a b, x, W, X, c, h => by
    match x, h with
    | .BoolOp .Or (l :: r :: []) p, h =>
      simp only [ckE, Bool.and_eq_true] at h
      obtain ⟨pa, ta⟩ := okE a l W X c h.1
      obtain ⟨pb, tb'⟩ := okE b r W X c h.2
      exact ⟨pe_or_ c.hK pa (pe_one pb), pw_or_ ta (pw_or1 tb')⟩
    | .BoolOp .Or (l :: r :: q :: qs) p, h =>
      simp only [ckE, Bool.and_eq_true] at h
      obtain ⟨pa, ta⟩ := okE a l W X c h.1
      obtain ⟨pb, tb'⟩ := okE b (.BoolOp .Or (r :: q :: qs) p) W X c h.2
      exact ⟨pe_or_ c.hK pa pb, pw_or_ ta (pw_of tb')⟩
  | .not1 a, x, W, X, c, h => by
    match x, h with
    | .UnaryOp .Not l p, h =>
      have h' : ckE tb X.env.scope X.fn X.N a l = true := by simpa [ckE] using h
      obtain ⟨pa, ta⟩ := okE a l W X c h'
      exact ⟨pe_not_ c.hK pa, pt_not_ ta⟩
  | .ite d a b, x, W, X, c, h => by
    match x, h with
    | .IfExp l r q p, h =>
      simp only [ckE, Bool.and_eq_true] at h
      obtain ⟨⟨h1, h2⟩, h3⟩ := h
      obtain ⟨pc, tc⟩ := okE d l W X c h1
      obtain ⟨pa, ta⟩ := okE a r W X c h2
      obtain ⟨pb, tb'⟩ := okE b q W X c h3
      exact ⟨pe_ite_ tc pa pb, pt_ite_ tc ta tb'⟩
  | .tup es, x, W, X, c, h => by
    match x, h with
    | .Tuple xs n p, h =>
      have h' : ckEs tb X.env.scope X.fn X.N es xs = true := by simpa [ckE] using h
      exact OkE.plain c.hK (pe_tup_ (okEs es xs W X c h').1) fun _ => rfl
  | .lst es, x, W, X, c, h => by
    match x, h with
    | .List xs p, h =>
      have h' : ckEs tb X.env.scope X.fn X.N es xs = true := by simpa [ckE] using h
      exact OkE.plain c.hK (pe_lst_ (okEs es xs W X c h').1) fun _ => rfl
  | .idx a i, x, W, X, c, h => by
    match x, h with
    | .Subscript l r p, h =>
      have h' : ckE tb X.env.scope X.fn X.N a l = true ∧ ckE tb X.env.scope X.fn X.N i r = true := by
        unfold ckE at h
        simpa using h
      exact OkE.plain c.hK (pe_idx_ c.hK (okE a l W X c h'.1).1 (okE i r W X c h'.2).1 (plain_of (ck_star h'.2))) fun _ => rfl
  | .slc a lo hi, x, W, X, c, h => by
    match x, h with
    | .Subscript l (.Slice u v none q) p, h =>
      simp only [ckE, Bool.and_eq_true] at h
      obtain ⟨⟨h1, h2⟩, h3⟩ := h
      exact OkE.plain c.hK (pe_slc_ c.hK (okE a l W X c h1).1 (okEo lo u W X c h2) (okEo hi v W X c h3)) fun _ => rfl
  | .call f es, x, W, X, c, h => by
    match x, h with
    | .Call (.Name n q) (y :: ys) [] p, h =>
      simp only [ckE, Bool.and_eq_true, decide_eq_true_eq] at h
      obtain ⟨⟨⟨⟨rfl, h2⟩, h3⟩, h4⟩, h5⟩ := h
      have hs : starEach (y :: ys) X.env = (false, eval y X.env) :: starEach ys X.env := by
        cases es with
        | nil => simp [ckEs] at h5
        | cons e es =>
          simp only [ckEs, Bool.and_eq_true] at h5
          exact star_of (ck_star h5.1) _ _
      have hpl : (backTo p (starEach ys X.env)).any (·.1) = false := by
        have z := stars h5 p X.env
        rw [hs] at z
        exact z
      exact OkE.plain c.hK (pe_call_ c (glB_ok h2) h3 h4 (okEs es (y :: ys) W X c h5).1 (args_len h5) hs hpl) fun _ => rfl
  | .bi f es, x, W, X, c, h => by
    match x, h with
    | .Call (.Name n q) (y :: ys) [] p, h =>
      simp only [ckE, Bool.and_eq_true, decide_eq_true_eq] at h
      obtain ⟨⟨⟨rfl, h2⟩, h3⟩, h5⟩ := h
      have hs : starEach (y :: ys) X.env = (false, eval y X.env) :: starEach ys X.env := by
        cases es with
        | nil => simp [ckEs] at h5
        | cons e es =>
          simp only [ckEs, Bool.and_eq_true] at h5
          exact star_of (ck_star h5.1) _ _
      have hpl : (backTo p (starEach ys X.env)).any (·.1) = false := by
        have z := stars h5 p X.env
        rw [hs] at z
        exact z
      exact OkE.plain c.hK (pe_bi_ c (glB_ok h2) (okEs es (y :: ys) W X c h5).2 hs hpl) fun _ => rfl
  | .lc own tg it d e, x, W, X, c, h => by
    match x, h with
    | .ListComp elt [⟨t, i, ifs, 0⟩] scope p, h =>
      simp only [ckE, Bool.and_eq_true] at h
      obtain ⟨⟨⟨⟨⟨h1, h2⟩, h3⟩, h4⟩, h5⟩, h6⟩ := h
      have hsl : ∀ i ∈ tg.slots, i ∈ own.map (·.2) := by simpa using h2
      refine OkE.plain c.hK ?_ fun _ => rfl
      refine PE.imp (pe_lc_ c.hK c.calm c.nd (okIt it t i W X c h4).1 (blkOk_by h1) hsl (fun s H C cl fp => okT (X := X.blk s H scope (compEnvC scope cl C X.env) fp) c.hK c.calm c.nd tg t h3)
        (fun s H C cl fp => okC d ifs noW _ (c.blk s H scope C cl fp (blkOk_by h1).kind) h5) (fun s H C cl fp => (okE e elt noW _ (c.blk s H scope C cl fp (blkOk_by h1).kind) h6).1) (okIt it t i W X c h4).2) fun σ H Q q => ?_
      exact lc_ok hsl q
theorem okEs : ∀ (es : Es) (xs : List Expr) (W : WX) (X : Cx), CtxA g tb wf k W X → ckEs tb X.env.scope X.fn X.N es xs = true → PA X xs (tA g W (evEs (run tb wf k) es)) ∧ PA X xs (tAT g W (evTs (run tb wf k) es))
  | .nil, [], W, X, c, h => by
    rw [evEs_nil, evTs_nil]
    exact ⟨pa_nil_, pb_nil_⟩
  | .cons e es, x :: xs, W, X, c, h => by
    simp only [ckEs, Bool.and_eq_true] at h
    rw [evEs_cons, evTs_cons]
    obtain ⟨p1, p2⟩ := okEs es xs W X c h.2
    have q := (okE e x W X c h.1).1
    have hs := star_of (ck_star h.1) xs X.env
    exact ⟨pa_cons_ q p1 hs, pb_cons_ q p2 hs⟩
  | .nil, _ :: _, _, _, _, h => by simp [ckEs] at h
  | .cons _ _, [], _, _, _, h => by simp [ckEs] at h
theorem okEo : ∀ (e : Eo) (x : Option Expr) (W : WX) (X : Cx), CtxA g tb wf k W X → ckEo tb X.env.scope X.fn X.N e x = true → PO X x (tO g W (evEo (run tb wf k) e))
  | .none, none, W, X, c, h => po_none_
  | .some e, some x, W, X, c, h => po_some_ (okE e x W X c (by simpa [ckEo] using h)).1
  | .none, some _, _, _, _, h => by simp [ckEo] at h
  | .some _, none, _, _, _, h => by simp [ckEo] at h
theorem okC : ∀ (e : Eo) (x : List Expr) (W : WX) (X : Cx), CtxA g tb wf k W X → ckC tb X.env.scope X.fn X.N e x = true → PTs X x (tT g W (evC (run tb wf k) e))
  | .none, [], W, X, c, h => by
    refine ⟨fun pins s σ H Q I ⟨ι, ρ, st, re, rs, w⟩ => pts_nil.run pins s σ H Q I ?_⟩
    exact w ι H true Ext.refl rs rfl
  | .some e, [x], W, X, c, h => pts_one (okE e x W X c (by simpa [ckC] using h)).2
  | .none, _ :: _, _, _, _, h => by simp [ckC] at h
  | .some _, [], _, _, _, h => by simp [ckC] at h
  | .some _, _ :: _ :: _, _, _, _, h => by simp [ckC] at h
theorem okIt : ∀ (it : It) (t x : Expr) (W : WX) (X : Cx), CtxA g tb wf k W X → ckIt tb X.env.scope X.fn X.N it t x = true → PI X t x (tI g W (evIt (run tb wf k) it)) ∧ ∀ v, foldedSetIterable x X.env v = pure v
  | .seq e, t, x, W, X, c, h => by
    have h' : ckE tb X.env.scope X.fn X.N e x = true := by simpa [ckIt] using h
    exact ⟨pi_seq_ c.hK (okE e x W X c h').1, noset_of (ck_star h') _⟩
  | .rng es, t, x, W, X, c, h => by
    match x, h with
    | .Call (.Name n q) xs [] p, h =>
      simp only [ckIt, Bool.and_eq_true, decide_eq_true_eq] at h
      obtain ⟨⟨⟨rfl, h2⟩, h3⟩, h4⟩ := h
      refine ⟨?_, fun _ => rfl⟩
      have pa := (okEs es xs W X c h3).1
      have al := args_len (cf := run tb wf k) h3
      match xs, h4, h3, pa, al with
      | [y], _, h3, pa, al =>
        have hs : starEach [y] X.env = [(false, eval y X.env)] := by
          cases es with
          | nil => simp [ckEs] at h3
          | cons e es =>
            simp only [ckEs, Bool.and_eq_true] at h3
            exact star_of (ck_star h3.1) _ _
        exact pi_rng1_ (glB_ok h2) c.mgI.1 pa al hs
      | [y, z], _, h3, pa, al =>
        have hs : notStar y = true ∧ notStar z = true := by
          cases es with
          | nil => simp [ckEs] at h3
          | cons e es =>
            cases es with
            | nil => simp [ckEs] at h3
            | cons e' es =>
              simp only [ckEs, Bool.and_eq_true] at h3
              exact ⟨ck_star h3.1, ck_star h3.2.1⟩
        exact pi_rng2_ (glB_ok h2) c.mgI.1 pa al (by rw [star_of hs.1, star_of hs.2]; rfl) (by rw [star_of hs.2]; rfl)
      | [], h4, _, _, _ => simp at h4
      | _ :: _ :: _ :: _, h4, _, _, _ => simp at h4
  | .zip a b, t, x, W, X, c, h => by
    match t, x, h with
    | .Tuple els kk tp, .Call (.Name n q) [y, z] [] p, h =>
      simp only [ckIt, Bool.and_eq_true, decide_eq_true_eq] at h
      obtain ⟨⟨⟨rfl, h2⟩, h3⟩, h4⟩ := h
      exact ⟨pi_zip_ c.hK (glB_ok h2) c.mgI.2.1 (okE a y W X c h3).1 (okE b z W X c h4).1 (ck_star h3) (ck_star h4), fun _ => rfl⟩
  | .enum a, t, x, W, X, c, h => by
    match t, x, h with
    | .Tuple els kk tp, .Call (.Name n q) [y] [] p, h =>
      simp only [ckIt, Bool.and_eq_true, decide_eq_true_eq] at h
      obtain ⟨⟨rfl, h2⟩, h3⟩ := h
      exact ⟨pi_enum_ c.hK (glB_ok h2) c.mgI.2.2 (okE a y W X c h3).1 (ck_star h3), fun _ => rfl⟩
end
end
end Fy
end
section
set_option Elab.async false
set_option linter.all false
set_option maxRecDepth 100000
set_option maxHeartbeats 4000000
/-! FyC: statements. -/
namespace Fy
open PySem PySem.Spec PyProof.Rows L2
/-- a statement ends so -/
def WpS (g : Glo) (W : WX) (D : Ends) (ι : List Addr) (H : Hp) (m : Fl) : Prop :=
  match m with
  | .nx ρ s => ∀ ι' H' σ', Ext ι H ι' H' → RS g ι' s H' → RE g ι' H' ρ σ' → D.nx σ' H'
  | .rt t s => ∀ ι' H' v, Ext ι H ι' H' → RS g ι' s H' → (rlT g).r H ι' H' t v → D.rt v H'
  | .bk ρ s => ∀ ι' H' σ', Ext ι H ι' H' → RS g ι' s H' → RE g ι' H' ρ σ' → D.bk σ' H'
  | .ct ρ s => ∀ ι' H' σ', Ext ι H ι' H' → RS g ι' s H' → RE g ι' H' ρ σ' → D.ct σ' H'
  | .ex ρ x s => ∀ ι' H' σ' c d, Ext ι H ι' H' → RS g ι' s H' → RE g ι' H' ρ σ' → RX g ι' H' x c d → W c d σ' H'
  | .bad => False
def tS (g : Glo) (W : WX) (f : Env → Sto → Fl) : TS := fun D σ H => ∃ ι ρ s, RE g ι H ρ σ ∧ RS g ι s H ∧ WpS g W D ι H (f ρ s)
section
variable {g : Glo} {W : WX} {X : Cx} {D : Ends} {σ : L2.St} {ι ι1 : List Addr} {H H1 : Hp} {s : Sto} {ρ : Env} {e : Expr} {fa : Env → Sto → R T} {pos : Pos}
theorem WpS.shift {m : Fl} (h : WpS g W D ι H m) (x : Ext ι H ι1 H1) : WpS g W D ι1 H1 m := by
  cases m with
  | nx ρ s => exact fun ι' H' σ' x' => h ι' H' σ' (x.trans x')
  | rt t s => exact fun ι' H' v x' rs r => h ι' H' v (x.trans x') rs ((rlT g).sh x x' r)
  | bk ρ s => exact fun ι' H' σ' x' => h ι' H' σ' (x.trans x')
  | ct ρ s => exact fun ι' H' σ' x' => h ι' H' σ' (x.trans x')
  | ex ρ y s => exact fun ι' H' σ' c d x' => h ι' H' σ' c d (x.trans x')
  | bad => exact h
theorem WpS.step {α β : Type} {RA : Rl α β} {m : R α} {k : α → Sto → Fl} {N : β → Hp → Prop} (h : WpS g W D ι H (m.fl ρ k)) (re : RE g ι H ρ σ) (rs : RS g ι s H)
    (hk : ∀ a s1 ι1 H1 b, m = .ok a s1 → Ext ι H ι1 H1 → RS g ι1 s1 H1 → RA.r H ι1 H1 a b → WpS g W D ι H (k a s1) → N b H1) : Wp g W RA σ ι H m N := by
  cases m with
  | ok a s1 => exact fun ι1 H1 b x rs r => hk a s1 ι1 H1 b rfl x rs r h
  | ex e s' => exact fun ι' H' c d x rs' rx => h ι' H' σ c d x rs' (re.ext rs x) rx
  | bad => exact h
/-- .. begun further on -/
theorem WpS.stepAt {α β : Type} {RA : Rl α β} {m : R α} {k : α → Sto → Fl} {N : β → Hp → Prop} {ι0 : List Addr} {H0 : Hp} (h : WpS g W D ι0 H0 (m.fl ρ k)) (x0 : Ext ι0 H0 ι H) (re : RE g ι H ρ σ) (rs : RS g ι s H)
    (hk : ∀ a s1 ι1 H1 b, m = .ok a s1 → Ext ι H ι1 H1 → RS g ι1 s1 H1 → RA.r H ι1 H1 a b → WpS g W D ι0 H0 (k a s1) → N b H1) : Wp g W RA σ ι H m N := by
  cases m with
  | ok a s1 => exact fun ι1 H1 b x rs r => hk a s1 ι1 H1 b rfl x rs r h
  | ex e s' => exact fun ι' H' c d x rs' rx => h ι' H' σ c d (x0.trans x) rs' (re.ext rs x) rx
  | bad => exact h
theorem WpS.keep {DD : Ends} {k : Fy.D → Sto → Fl} {N : V → Hp → Prop} {t : R T} (h : WpS g W DD ι H (t.fl ρ fun x s => (keepR x s).fl ρ k)) (re : RE g ι H ρ σ) (rs : RS g ι s H)
    (hk : ∀ d s1 ι1 H1 v, Ext ι H ι1 H1 → RS g ι1 s1 H1 → RD g ι1 H1 d v → WpS g W DD ι H (k d s1) → N v H1) : Wp g W (rlT g) σ ι H t N :=
  WpS.step (RA := rlT g) h re rs fun t s1 ι1 H1 v _ x1 rs1 r1 w0 => by
    obtain ⟨ι2, rs2, x2, rd⟩ := keep_ok rs1 x1 r1.1 r1.2
    exact hk _ _ ι2 H1 v x2 rs2 rd w0
theorem cond_ok {m1 m2 : T → Sto → Fl} {N : Bool → Hp → Prop}
    (w : WpS g W D ι H ((fa ρ s).fl ρ fun x s => match truth x s with | some true => m1 x s | some false => m2 x s | none => .bad)) (re : RE g ι H ρ σ) (rs : RS g ι s H)
    (h1 : ∀ x s1 ι1 H1, Ext ι H ι1 H1 → RS g ι1 s1 H1 → WpS g W D ι1 H1 (m1 x s1) → N true H1)
    (h2 : ∀ x s1 ι1 H1, Ext ι H ι1 H1 → RS g ι1 s1 H1 → WpS g W D ι1 H1 (m2 x s1) → N false H1) : Wp g W rlB σ ι H (thr fa ρ s) N := by
  unfold thr
  cases h : fa ρ s with
  | ok x s1 =>
    rw [h] at w
    simp only [R.bind_ok, R.fl_ok] at w ⊢
    cases ht : truth x s1 with
    | none => rw [ht] at w; exact w.elim
    | some b =>
      rw [ht] at w
      rintro ι' H' b' x1 rs1 r1
      have r1' : b = b' := r1
      subst r1'
      cases b with
      | true => exact h1 x s1 ι' H' x1 rs1 (WpS.shift w x1)
      | false => exact h2 x s1 ι' H' x1 rs1 (WpS.shift w x1)
  | ex x s1 =>
    rw [h] at w
    exact fun ι' H' c d x1 rs' rx => w ι' H' σ c d x1 rs' (re.ext rs x1) rx
  | bad => rw [h] at w; exact w.elim

/-! ### plain statements -/
theorem ps_asg_ {tg : Expr} {t : Tg} (he : PE X e (tE g W fa)) (hg : PG X tg (gE g t)) (hs : swapsWithSole [tg] e pos.line X.env = pure false) (hw : swappedStores [tg] e X.env = pure none) (h1 : (assignEach [tg] X.env).map (·.2) = [assign tg X.env]) :
    PS X (.Assign [tg] e pos) (tS g W fun ρ s => (fa ρ s).fl ρ fun x s => (keepR x s).fl ρ fun d s => match bindT t d ρ with | some ρ => .nx ρ s | none => .bad) :=
  PS.imp (ps_asg he hg hs hw h1) fun D σ H ⟨ι, ρ, s, re, rs, w⟩ => ⟨ι, ρ, s, re, rs, WpS.keep w re rs fun d s1 ι1 H1 v x1 rs1 rd w0 => by
    cases hb : bindT t d ρ with
    | none => rw [hb] at w0; exact w0.elim
    | some ρ' =>
      rw [hb] at w0
      exact ⟨ι1, ρ, s1, d, ρ', re.ext rs x1, rs1, rd, hb, fun σ' re' _ => w0 ι1 H1 σ' x1 rs1 re'⟩⟩
theorem ps_setLc_ {i : Nat} {y : Str} {py spos : Pos} {elt tg' iter : Expr} {ifs : List Expr} {scope : Scope} {own : List (Str × Nat)} {tg : Tg} {fi : Env → Sto → R Items} {fc : Env → Sto → R Bool} {fe : Env → Sto → R T}
    (hK : X.K = g.K) (hc : X.calm = true) (hN : X.N.Nodup) (hy : X.N[i]? = some y) (hyl : X.env.scope.names.lookup y = some .local)
    (hsw : swapsWith (.ListComp elt [⟨tg', iter, ifs, 0⟩] scope pos) (some (.Name y py)) spos.line X.env = pure true) (hi : PI X tg' iter (tI g W fi)) (ok : BlkOk X.N X.env.scope scope own) (hsl : ∀ i ∈ tg.slots, i ∈ own.map (·.2))
    (hg : ∀ (s : Shared) (H : Hp) (C : Addr) (cl : List (Str × Addr)) (fp : List Addr), PG (X.blk s H scope (compEnvC scope cl C X.env) fp) tg' (gE g tg))
    (ht : ∀ (s : Shared) (H : Hp) (C : Addr) (cl : List (Str × Addr)) (fp : List Addr), PTs (X.blk s H scope (compEnvC scope cl C X.env) fp) ifs (tT g noW fc))
    (he : ∀ (s : Shared) (H : Hp) (C : Addr) (cl : List (Str × Addr)) (fp : List Addr), PE (X.blk s H scope (compEnvC scope cl C X.env) fp) elt (tE g noW fe)) (hs : ∀ x, foldedSetIterable iter X.env x = pure x) :
    PS X (.Assign [.Name y py] (.ListComp elt [⟨tg', iter, ifs, 0⟩] scope pos) spos) (tS g W fun ρ s => ((fi ρ s).bind fun I s => lcLoop (lcF tg (own.map (·.2)) ρ fc fe) I.src I.xs [] s).fl ρ fun x s => (keepR x s).fl ρ fun d s => .nx (ρ.set i (some d)) s) :=
  PS.imp (ps_setLc hc hN hy hyl hsw hi ok hg ht he hs) fun D σ H ⟨ι, ρ, s, re, rs, w⟩ => lc_ok hsl ⟨ι, ρ, s, re, rs, WpS.keep w re rs fun d s1 ι1 H1 v x1 rs1 rd w0 =>
    w0 ι1 H1 _ x1 rs1 ((re.ext rs x1).set i rd)⟩
theorem ps_ret_ (he : PE X e (tE g W fa)) : PS X (.Return (some e) pos) (tS g W fun ρ s => (fa ρ s).fl ρ fun x s => .rt x s) :=
  PS.imp (ps_ret he) fun D σ H ⟨ι, ρ, s, re, rs, w⟩ => ⟨ι, ρ, s, re, rs, WpS.step (RA := rlT g) w re rs fun t s1 ι1 H1 v _ x1 rs1 r1 w0 => w0 ι1 H1 v x1 rs1 r1⟩
theorem ps_ret0_ : PS X (.Return none pos) (tS g W fun _ s => .rt (.v .non) s) :=
  PS.imp ps_retN fun D σ H ⟨ι, ρ, s, re, rs, w⟩ => w ι H _ Ext.refl rs (rlT.v .non)
theorem ps_expr_ (he : PE X e (tE g W fa)) (hs : swapsWith e none pos.line X.env = pure false) : PS X (.Expr e pos) (tS g W fun ρ s => (fa ρ s).fl ρ fun _ s => .nx ρ s) :=
  PS.imp (ps_expr he hs) fun D σ H ⟨ι, ρ, s, re, rs, w⟩ => ⟨ι, ρ, s, re, rs, WpS.step (RA := rlT g) w re rs fun t s1 ι1 H1 v _ x1 rs1 r1 w0 => w0 ι1 H1 σ x1 rs1 (re.ext rs x1)⟩
theorem ps_pass_ : PS X (.Pass pos) (tS g W fun ρ s => .nx ρ s) := PS.imp ps_pass fun D σ H ⟨ι, ρ, s, re, rs, w⟩ => w ι H σ Ext.refl rs re
theorem ps_brk_ : PS X (.Break pos) (tS g W fun ρ s => .bk ρ s) := PS.imp ps_break fun D σ H ⟨ι, ρ, s, re, rs, w⟩ => w ι H σ Ext.refl rs re
theorem ps_cont_ : PS X (.Continue pos) (tS g W fun ρ s => .ct ρ s) := PS.imp ps_continue fun D σ H ⟨ι, ρ, s, re, rs, w⟩ => w ι H σ Ext.refl rs re
theorem ps_if_ {x : Expr} {a b : List Stmt} {f1 f2 : Env → Sto → Fl} (hc : PT X x (tT g W (thr fa))) (ha : PSs X a (tS g W f1)) (hb : PSs X b (tS g W f2)) :
    PS X (.If x a b pos) (tS g W fun ρ s => (fa ρ s).fl ρ fun x s => match truth x s with | some true => f1 ρ s | some false => f2 ρ s | none => .bad) :=
  PS.imp (ps_if hc ha hb) fun D σ H ⟨ι, ρ, s, re, rs, w⟩ => ⟨ι, ρ, s, re, rs, cond_ok w re rs (fun x s1 ι1 H1 x1 rs1 w1 => by rw [if_pos rfl]; exact ⟨ι1, ρ, s1, re.ext rs x1, rs1, w1⟩)
    fun x s1 ι1 H1 x1 rs1 w1 => by rw [if_neg Bool.false_ne_true]; exact ⟨ι1, ρ, s1, re.ext rs x1, rs1, w1⟩⟩
theorem ps_par_ {i j : Nat} {x y : Str} {a b : Expr} {px py pt : Pos} {kt k2 : Nat} {pt2 : Pos} {fa fb : Env → Sto → R T} (hc : X.calm = true) (hN : X.N.Nodup) (hi : X.N[i]? = some x) (hj : X.N[j]? = some y) (hij : i ≠ j)
    (hx : X.env.scope.names.lookup x = some .local) (hy : X.env.scope.names.lookup y = some .local) (ha : PA X [a, b] (tA g W (aCons fa (aCons fb aNil))))
    (hw : swappedStores [.Tuple [.Name x px, .Name y py] kt pt] (.Tuple [a, b] k2 pt2) X.env = pure (some [x, y])) :
    PS X (.Assign [.Tuple [.Name x px, .Name y py] kt pt] (.Tuple [a, b] k2 pt2) pos) (tS g W fun ρ s => (fa ρ s).fl ρ fun x s => (keepR x s).fl ρ fun d s => (fb ρ s).fl ρ fun y s => (keepR y s).fl ρ fun e s => .nx ((ρ.set i (some d)).set j (some e)) s) :=
  PS.imp (ps_par hc hN hi hj hij hx hy ha hw rfl) fun D σ H ⟨ι, ρ, s, re, rs, w⟩ => ⟨ι, ρ, s, re, rs, by
    have e : ((fa ρ s).fl ρ fun x s => (keepR x s).fl ρ fun d s => (fb ρ s).fl ρ fun y s => (keepR y s).fl ρ fun e s => Fl.nx ((ρ.set i (some d)).set j (some e)) s) =
        (aCons fa (aCons fb aNil) ρ s).fl ρ fun ds s => match ds with | [d, e] => Fl.nx ((ρ.set i (some d)).set j (some e)) s | _ => .bad := by
      unfold aCons aNil
      cases fa ρ s with
      | ok t s1 =>
        simp only [R.bind_ok, R.fl_ok, keepR]
        cases fb ρ (t.keep s1).2 with
        | ok t' s2 => rfl
        | ex _ _ => rfl
        | bad => rfl
      | ex _ _ => rfl
      | bad => rfl
    dsimp only at w
    rw [e] at w
    refine WpS.step (RA := rlDs g) w re rs fun ds s1 ι1 H1 vs _ x1 rs1 rds w0 => ?_
    match ds, rds, w0 with
    | [d, e], rds, w0 =>
      obtain ⟨v, u, rfl, r1, r2⟩ := RDs.two rds
      exact ⟨v, u, rfl, w0 ι1 H1 _ x1 rs1 (((re.ext rs x1).set i r1).set j r2)⟩
    | [], _, w0 => exact w0.elim
    | [_], _, w0 => exact w0.elim
    | _ :: _ :: _ :: _, _, w0 => exact w0.elim⟩
theorem ps_aug_ {i : Nat} {x : Str} {op : Bop} {pos' : Pos} (hN : X.N.Nodup) (hi : X.N[i]? = some x) (hx : L2.Loc X.env.scope x) (hf : X.fn x = true ∨ X.env.scope.names.lookup x = some .local) (he : PE X e (tE g W fa)) (hop : op = .add ∨ op = .sub) :
    PS X (.AugAssign (.Name x pos') (opOf op) e pos) (tS g W fun ρ s => match ρ[i]? with
      | some (some (.int a)) => (fa ρ s).fl ρ fun y s => match augT op a y with
        | some c => .nx (ρ.set i (some (.int c))) s
        | none => .bad
      | _ => .bad) := by
  have gen : ∀ (f : Int → Int → Int), PIp X (opOf op) (ipI f) → (∀ (a : Int) (y : T) c, augT op a y = some c → ∃ b, y = .v (.int b) ∧ c = f a b) →
      PS X (.AugAssign (.Name x pos') (opOf op) e pos) (tS g W fun ρ s => match ρ[i]? with
      | some (some (.int a)) => (fa ρ s).fl ρ fun y s => match augT op a y with
        | some c => .nx (ρ.set i (some (.int c))) s
        | none => .bad
      | _ => .bad) := fun f hp hf' =>
    PS.imp (ps_aug hN hi hx he hp hf) fun D σ H ⟨ι, ρ, s, re, rs, w⟩ => by
      dsimp only at w
      split at w
      · rename_i a hr
        obtain ⟨v, ev, rv⟩ := re.at_ i _ hr
        cases rv.int_
        refine ⟨_, ev, ι, ρ, s, re, rs, WpS.step (RA := rlT g) w re rs fun t s1 ι1 H1 v _ x1 rs1 r1 w0 => ?_⟩
        cases ha : augT op a t with
        | none => rw [ha] at w0; exact w0.elim
        | some c =>
          rw [ha] at w0
          obtain ⟨b, rfl, rfl⟩ := hf' a t c ha
          cases r1.1.int_
          exact ⟨a, b, rfl, rfl, w0 ι1 H1 _ x1 rs1 ((re.ext rs x1).set i (.int _))⟩
      · exact w.elim
  rcases hop with rfl | rfl
  · refine gen (fun i j => i + j) ip_add fun a y c h => ?_
    cases y with
    | l _ => simp [augT] at h
    | v d => cases d <;> simp [augT] at h; exact ⟨_, rfl, h.symm⟩
  · refine gen (fun i j => i - j) ip_sub fun a y c h => ?_
    cases y with
    | l _ => simp [augT] at h
    | v d => cases d <;> simp [augT] at h; exact ⟨_, rfl, h.symm⟩

/-! ### o[i] = e -/
theorem RS.put {n : Nat} {a : Addr} {xs ys : List Fy.D} {vs ws : List V} (rs : RS g ι s H) (hs : s[n]? = some (.lst xs)) (ha : ι[n]? = some a) (hv : H a = some (.lst vs)) (r : RDs g ι H ys ws) :
    RS g ι (s.set n (.lst ys)) (L2.upd H a (.lst ws)) ∧ Ext ι H ι (L2.upd H a (.lst ws)) := by
  have x : Ext ι H ι (L2.upd H a (.lst ws)) := ⟨List.prefix_refl _, fun b o e nb => by rw [upd_ne (fun q => nb (by rw [q]; exact List.mem_of_getElem? ha))]; exact e, fun _ m nm => absurd m nm⟩
  have tm : ∀ b us, Rd H b (.tup us) → Rd (L2.upd H a (.lst ws)) b (.tup us) := fun b us q => by
    have ne : b ≠ a := by
      rintro rfl
      rcases q with q | ⟨o, q⟩ <;> (rw [hv] at q; cases q)
    rcases q with q | ⟨o, q⟩
    · exact .inl (by rw [upd_ne ne]; exact q)
    · exact .inr ⟨o, by rw [upd_ne ne]; exact q⟩
  have fm : ∀ b o us, H b = some (.frz o (.lst us)) → (L2.upd H a (.lst ws)) b = some (.frz o (.lst us)) := fun b o us q => by
    have ne : b ≠ a := by
      rintro rfl
      rw [hv] at q; cases q
    rw [upd_ne ne]; exact q
  refine ⟨⟨rs.nd, by simp [rs.len], fun k o e => ?_⟩, x⟩
  by_cases hk : n = k
  · subst hk
    have hl : n < s.length := (List.getElem?_eq_some_iff.mp hs).1
    rw [List.getElem?_set_self hl] at e
    cases e
    exact ⟨a, ha, ws, upd_same, r.imp (fun _ _ q => q) tm fm⟩
  · rw [List.getElem?_set_ne hk] at e
    obtain ⟨b, eb, rb⟩ := rs.at_ k o e
    have ne : b ≠ a := by
      rintro rfl
      have h1 := (List.getElem?_eq_some_iff.mp ha)
      have h2 := (List.getElem?_eq_some_iff.mp eb)
      obtain ⟨l1, e1⟩ := h1
      obtain ⟨l2, e2⟩ := h2
      exact hk ((List.getElem_inj rs.nd).mp (e1.trans e2.symm))
    refine ⟨b, eb, ?_⟩
    cases o with
    | lst zs => obtain ⟨us, e1, r1⟩ := rb; exact ⟨us, by rw [upd_ne ne]; exact e1, r1.imp (fun _ _ q => q) tm fm⟩
    | dic _ => exact rb.elim
    | ins _ _ => exact rb.elim
theorem putAt_some {o : T} {k d : Fy.D} {s s' : Sto} (h : putAt o k d s = some s') : ∃ n j xs m, o = .v (.loc n) ∧ k = .int j ∧ s[n]? = some (.lst xs) ∧ ixN xs.length j = some m ∧ s' = s.set n (.lst (xs.set m d)) := by
  unfold putAt at h
  split at h
  · split at h
    · rename_i n j _ xs hn
      simp only [Option.map_eq_some_iff] at h
      obtain ⟨m, hm, e⟩ := h
      exact ⟨n, j, xs, m, rfl, rfl, hn, hm, e.symm⟩
    · cases h
  · cases h
theorem ps_put_ {o i : Expr} {fo fi : Env → Sto → R T} {tpos : Pos} (he : PE X e (tE g W fa)) (ho : PE X o (tE g W fo)) (hi : PE X i (tE g W fi)) (hs : notStar i = true) (hs2 : swapsWithSole [.Subscript o i tpos] e pos.line X.env = pure false) :
    PS X (.Assign [.Subscript o i tpos] e pos) (tS g W fun ρ s => (fa ρ s).fl ρ fun x s => (keepR x s).fl ρ fun d s => (fo ρ s).fl ρ fun o s => (fi ρ s).fl ρ fun y s => match y with
      | .v k => (match putAt o k d s with | some s => .nx ρ s | none => .bad)
      | _ => .bad) :=
  PS.imp (ps_asg he (pg_sub ho hi set_list (fun v => by cases i <;> first | rfl | (simp [notStar] at hs))) hs2 rfl rfl) fun D σ H ⟨ι, ρ, s, re, rs, w⟩ =>
    ⟨ι, ρ, s, re, rs, WpS.keep w re rs fun d s1 ι1 H1 v x1 rs1 rd w0 => ⟨ι1, ρ, s1, re.ext rs x1, rs1, WpS.step (RA := rlT g) (WpS.shift w0 x1) (re.ext rs x1) rs1 fun t s2 ι2 H2 u _ x2 rs2 r2 w2 =>
      ⟨ι2, ρ, s2, re.ext rs (x1.trans x2), rs2, WpS.step (RA := rlT g) (WpS.shift w2 x2) (re.ext rs (x1.trans x2)) rs2 fun y s3 ι3 H3 z _ x3 rs3 r3 w3 => by
        have rt := r2.1.ext rs2 x3
        have rd3 := (rd.ext rs1 x2).ext rs2 x3
        cases y with
        | l _ => exact w3.elim
        | v k =>
          simp only at w3
          cases hp : putAt t k d s3 with
          | none => rw [hp] at w3; exact w3.elim
          | some s4 =>
            rw [hp] at w3
            obtain ⟨n, j, xs, m, rfl, rfl, hn, hm, rfl⟩ := putAt_some hp
            cases r3.1.int_
            obtain ⟨a, vs, ea, hv, dv⟩ := mlst_ok rs3 rt (show mlstOf (.v (.loc n)) s3 = some xs by simp [mlstOf, hn])
            have hloc : ι3[n]? = some a := by
              cases rt with | v q => cases q with | loc q => cases ea; exact q
            obtain ⟨rs4, x4⟩ := rs3.put hn hloc hv (dv.set rd3 m)
            subst ea
            exact ⟨a, vs, j, m, rfl, rfl, hv, by rw [← dv.length]; exact hm, w3 ι3 _ σ (x3.trans x4) rs4 ((re.ext rs ((x1.trans x2).trans x3)).ext rs3 x4)⟩⟩⟩⟩
end
end Fy
end
section
set_option Elab.async false
set_option linter.all false
set_option maxRecDepth 100000
set_option maxHeartbeats 1000000
/-! FyD: loops; all statements together. -/
namespace Fy
open PySem PySem.Spec PyProof.Rows L2
section
variable {g : Glo} {W : WX} {X : Cx} {ι : List Addr} {H : Hp} {e : Expr} {pos : Pos}
theorem ps_for_ {tg iter : Expr} {body : List Stmt} {t : Tg} {fi : Env → Sto → R Items} {fb : Env → Sto → Fl} (hp : PassesOwn (model X.prog X.w) X.A X.env X.xe) (hc : X.calm = true) (hi : PI X tg iter (tI g W fi)) (hg : PG X tg (gE g t)) (hb : PSs X body (tS g W fb))
    (hs : ∀ x, foldedSetIterable iter X.env x = pure x) :
    PS X (.For tg iter body [] pos) (tS g W fun ρ s => (fi ρ s).fl ρ fun I s => forLoop (forF t fb) I.src I.xs ρ s) :=
  PS.imp (ps_for hp hc hi hg hb hs) fun D σ H ⟨ι, ρ, s, re, rs, w⟩ => ⟨ι, ρ, s, re, rs, WpS.step (RA := rlI g) w re rs fun I s1 ι1 H1 J _ x1 rs1 wk w1 => by
    have wk' : Walks g ι1 H1 I J := wk
    have w1' := WpS.shift w1 x1
    refine ⟨fun i m σ' H' => m = I.xs.length - i ∧ i ≤ I.xs.length ∧ ∃ ι' ρ' s', Ext ι1 H1 ι' H' ∧ RS g ι' s' H' ∧ RE g ι' H' ρ' σ' ∧
      WpS g W D ι1 H1 (forLoop (forF t fb) I.src (I.xs.drop i) ρ' s'), ⟨_, rfl, Nat.zero_le _, ι1, ρ, s1, Ext.refl, rs1, re.ext rs x1, by simpa using w1'⟩, ?_⟩
    rintro i m σ' H' ⟨rfl, hi, ι', ρ', s', x2, rs2, re2, w2⟩
    by_cases hlt : i < I.xs.length
    · obtain ⟨d, hd⟩ : ∃ d, I.xs[i]? = some d := ⟨I.xs[i], by simp [hlt]⟩
      have hdrop : I.xs.drop i = d :: I.xs.drop (i + 1) := by
        rw [List.drop_eq_getElem_cons hlt]
        congr 1
        rw [List.getElem?_eq_getElem hlt] at hd
        exact Option.some.inj hd
      rw [hdrop] at w2
      unfold forLoop at w2
      cases hst : stands I.src s' with
      | false => rw [hst] at w2; simp only [Bool.false_eq_true, if_false] at w2; exact w2.elim
      | true =>
        rw [hst] at w2
        simp only [if_true] at w2
        obtain ⟨go, _⟩ := wk' ι' H' s' i x2 rs2 hst
        obtain ⟨hgo, yl⟩ := go d hd
        refine .inr ⟨hgo, fun σ3 H3 => ∃ ι3 ρ3 s3, Ext ι1 H1 ι3 H3 ∧ RS g ι3 s3 H3 ∧ RE g ι3 H3 ρ3 σ3 ∧
          WpS g W D ι1 H1 (forLoop (forF t fb) I.src (I.xs.drop (i + 1)) ρ3 s3), fun σ3 H3 h3 => ⟨_, by omega, rfl, hlt, h3⟩, fun x H4 hy => ?_⟩
        obtain ⟨x4, rs4, rd⟩ := yl x H4 hy
        rw [forF_ap] at w2
        cases hb : bindT t d ρ' with
        | none => rw [hb] at w2; exact w2.elim
        | some ρ2 =>
          rw [hb] at w2
          simp only at w2
          refine ⟨ι', ρ', s', d, ρ2, re2.ext rs2 x4, rs4, rd, hb, fun σ2 re5 _ => ⟨ι', ρ2, s', re5, rs4, ?_⟩⟩
          have x24 := x2.trans x4
          cases hf : fb ρ2 s' with
          | nx ρ6 s6 =>
            rw [hf] at w2
            exact fun ι7 H7 σ7 x7 rs7 re7 => ⟨ι7, ρ6, s6, x24.trans x7, rs7, re7, w2⟩
          | ct ρ6 s6 =>
            rw [hf] at w2
            exact fun ι7 H7 σ7 x7 rs7 re7 => ⟨ι7, ρ6, s6, x24.trans x7, rs7, re7, w2⟩
          | rt t6 s6 => rw [hf] at w2; exact WpS.shift (m := .rt t6 s6) w2 x24
          | bk ρ6 s6 => rw [hf] at w2; exact WpS.shift (m := .nx ρ6 s6) w2 x24
          | ex ρ6 y6 s6 => rw [hf] at w2; exact WpS.shift (m := .ex ρ6 y6 s6) w2 x24
          | bad => rw [hf] at w2; exact w2.elim
    · have ei : i = I.xs.length := by omega
      subst ei
      rw [List.drop_length] at w2
      unfold forLoop at w2
      cases hst : stands I.src s' with
      | false => rw [hst] at w2; simp only [Bool.false_eq_true, if_false] at w2; exact w2.elim
      | true =>
        rw [hst] at w2
        simp only [if_true] at w2
        exact .inl ⟨(wk' ι' H' s' _ x2 rs2 hst).2 (Nat.le_refl _), w2 ι' H' σ' x2 rs2 re2⟩⟩
theorem ps_while_ {x : Expr} {body : List Stmt} {fc : Env → Sto → R Bool} {fb : Env → Sto → Fl} {wf : Nat} (hp : PassesOwn (model X.prog X.w) X.A X.env X.xe) (hc : PT X x (tT g W fc)) (hb : PSs X body (tS g W fb)) :
    PS X (.While x body [] pos) (tS g W fun ρ s => whileLoop fc fb wf ρ s) :=
  PS.imp (ps_while hp hc hb) fun D σ H ⟨ι, ρ, s, re, rs, w⟩ => by
    refine ⟨fun m σ' H' => ∃ ι' ρ' s', Ext ι H ι' H' ∧ RS g ι' s' H' ∧ RE g ι' H' ρ' σ' ∧ WpS g W D ι H (whileLoop fc fb m ρ' s'), ⟨wf, ι, ρ, s, Ext.refl, rs, re, w⟩, ?_⟩
    rintro m σ' H' ⟨ι', ρ', s', x2, rs2, re2, w2⟩
    cases m with
    | zero => exact w2.elim
    | succ m =>
      unfold whileLoop at w2
      refine ⟨ι', ρ', s', re2, rs2, WpS.stepAt (RA := rlB) w2 x2 re2 rs2 fun b s3 ι3 H3 b' _ x3 rs3 eb w3 => ?_⟩
      have eb' : b = b' := eb
      subst eb'
      have re3 := re2.ext rs2 x3
      have x23 := x2.trans x3
      cases b with
      | false =>
        simp only [Bool.false_eq_true, if_false] at w3 ⊢
        exact w3 ι3 H3 σ' x23 rs3 re3
      | true =>
        simp only [if_true] at w3 ⊢
        refine ⟨fun σ4 H4 => ∃ ι4 ρ4 s4, Ext ι H ι4 H4 ∧ RS g ι4 s4 H4 ∧ RE g ι4 H4 ρ4 σ4 ∧ WpS g W D ι H (whileLoop fc fb m ρ4 s4), fun σ4 H4 h4 => ⟨m, Nat.lt_succ_self m, h4⟩, ι3, ρ', s3, re3, rs3, ?_⟩
        cases hf : fb ρ' s3 with
        | nx ρ6 s6 =>
          rw [hf] at w3
          exact fun ι7 H7 σ7 x7 rs7 re7 => ⟨ι7, ρ6, s6, x23.trans x7, rs7, re7, w3⟩
        | ct ρ6 s6 =>
          rw [hf] at w3
          exact fun ι7 H7 σ7 x7 rs7 re7 => ⟨ι7, ρ6, s6, x23.trans x7, rs7, re7, w3⟩
        | rt t6 s6 => rw [hf] at w3; exact WpS.shift (m := .rt t6 s6) w3 x23
        | bk ρ6 s6 => rw [hf] at w3; exact WpS.shift (m := .nx ρ6 s6) w3 x23
        | ex ρ6 y6 s6 => rw [hf] at w3; exact WpS.shift (m := .ex ρ6 y6 s6) w3 x23
        | bad => rw [hf] at w3; exact w3.elim

/-! ### the checker -/
def swB (sc : Scope) (y : Str) (py : Pos) (x : Expr) (scope : Scope) : Bool :=
  sc.names.lookup y == some .local && py.line == x.pos.line && !(scope.names.any fun (n, k) => n == y && (k == .local || k == .cell))
def notComp : Expr → Bool
  | .ListComp .. => false
  | .SetComp .. => false
  | .DictComp .. => false
  | _ => true
/-- a store that goes target by target -/
def genAsg (sc : Scope) (tg x : Expr) : Bool :=
  match x with
  | .ListComp _ _ scope _ => (match tg with | .Name y py => !swB sc y py x scope | _ => true)
  | .SetComp .. => false
  | .DictComp .. => false
  | .Tuple .. => (match tg with | .Tuple .. => false | .List .. => false | _ => true)
  | _ => true
theorem gen_ok {env : PySem.Env} {tg x : Expr} (hk : env.scope.kind = .function) (h : genAsg env.scope tg x = true) (line : Nat) : swapsWithSole [tg] x line env = pure false ∧ swappedStores [tg] x env = pure none := by
  have kb : env.blockKind = .function := by unfold PySem.Env.blockKind; rw [hk]; rfl
  cases x <;> first
    | (exfalso; simp [genAsg] at h; done)
    | (refine ⟨by rfl, ?_⟩; cases tg <;> rfl)
    | (refine ⟨by rfl, ?_⟩; cases tg <;> first | rfl | (simp [genAsg] at h))
    | (refine ⟨?_, by cases tg <;> rfl⟩
       cases tg <;> first
         | rfl
         | (rename_i elt gens scope p y py
            have h' : swB env.scope y py (.ListComp elt gens scope p) scope = false := by simpa [genAsg] using h
            have hb : (PySem.Env.blockKind env == PySem.ScopeKind.function) = true := by rw [kb]; rfl
            show (pure (env.blockKind == .function && env.kindOf y == some .local && py.line == _ && !(scope.names.any fun (n, k) => n == y && (k == .local || k == .cell))) : Sem Bool) = pure false
            rw [hb, Bool.true_and]
            exact congrArg pure h'))
/-- both sides written as pairs of names and values -/
def parB (sc : Scope) (x y : Str) (px py : Pos) (a b : Expr) : Bool :=
  sc.names.lookup x == some .local && sc.names.lookup y == some .local && py.line == px.line && !decide (x = y) && notStar a && notStar b && !(foldedForSure 8 a && foldedForSure 8 b) && !(constantsAlone 8 a && constantsAlone 8 b)
theorem par_ok {env : PySem.Env} {x y : Str} {px py pt : Pos} {kt k2 : Nat} {pt2 : Pos} {a b : Expr} (hk : env.scope.kind = .function) (h : parB env.scope x y px py a b = true) :
    swappedStores [.Tuple [.Name x px, .Name y py] kt pt] (.Tuple [a, b] k2 pt2) env = pure (some [x, y]) := by
  have kb : env.blockKind = .function := by unfold PySem.Env.blockKind; rw [hk]; rfl
  unfold parB at h
  simp only [Bool.and_eq_true, Bool.not_eq_true', decide_eq_false_iff_not, beq_iff_eq] at h
  obtain ⟨⟨⟨⟨⟨⟨⟨h1, h2⟩, h3⟩, h4⟩, h5⟩, h6⟩, h7⟩, h8⟩ := h
  have k1 : (env.kindOf x == some .local) = true := by rw [beq_iff_eq]; exact h1
  have k2' : (env.kindOf y == some .local) = true := by rw [beq_iff_eq]; exact h2
  have st : ([a, b].any fun | .Starred .. => true | _ => false) = false := by
    cases a <;> cases b <;> first | rfl | (simp [notStar] at h5; done) | (simp [notStar] at h6; done)
  have pl : (px.line == px.line) = true := by simp
  have pl2 : (py.line == px.line) = true := by simp [h3]
  have h4' : ¬ y = x := fun e => h4 e.symm
  have hp : (Expr.Name x px).pos = px := rfl
  unfold swappedStores
  simp only [kb, st, List.length_cons, List.length_nil, List.head?_cons, Option.map_some, Option.getD_some, List.filterMap_cons, List.filterMap_nil, hp, k1, k2', pl, pl2, Bool.and_self, if_true, List.all_cons, List.all_nil, Bool.and_true, h7, h8]
  refine (if_neg (by decide)).trans ((if_neg ?_).trans ((if_neg ?_).trans ?_))
  · intro hh
    cases a <;> cases b <;> first | (simp at hh; done) | (simp [notStar] at h5; done) | (simp [notStar] at h6; done)
  · have e : [x, y].eraseDups = [x, y] := by
      rw [List.eraseDups_cons]
      have e2 : [y].eraseDups = [y] := by rw [List.eraseDups_cons]; rfl
      simp [h4', e2]
    rw [e]
    simp
  · rfl

/-! views of statements and expressions -/
def vAssign1 : Stmt → Option (Expr × Expr × Pos)
  | .Assign [tg] x p => some (tg, x, p)
  | _ => none
theorem vAssign1_some {st : Stmt} {r : Expr × Expr × Pos} (h : vAssign1 st = some r) : st = .Assign [r.1] r.2.1 r.2.2 := by
  unfold vAssign1 at h
  split at h
  · cases h; rfl
  · cases h
def vName : Expr → Option (Str × Pos)
  | .Name x p => some (x, p)
  | _ => none
theorem vName_some {e : Expr} {r : Str × Pos} (h : vName e = some r) : e = .Name r.1 r.2 := by
  unfold vName at h
  split at h
  · cases h; rfl
  · cases h
def vLc : Expr → Option (Expr × Expr × Expr × List Expr × Scope × Pos)
  | .ListComp elt [⟨t, i, ifs, 0⟩] scope p => some (elt, t, i, ifs, scope, p)
  | _ => none
theorem vLc_some {e : Expr} {r : Expr × Expr × Expr × List Expr × Scope × Pos} (h : vLc e = some r) : e = .ListComp r.1 [⟨r.2.1, r.2.2.1, r.2.2.2.1, 0⟩] r.2.2.2.2.1 r.2.2.2.2.2 := by
  unfold vLc at h
  split at h
  · cases h; rfl
  · cases h
def vTup2 : Expr → Option (Expr × Expr × Nat × Pos)
  | .Tuple [a, b] k p => some (a, b, k, p)
  | _ => none
theorem vTup2_some {e : Expr} {r : Expr × Expr × Nat × Pos} (h : vTup2 e = some r) : e = .Tuple [r.1, r.2.1] r.2.2.1 r.2.2.2 := by
  unfold vTup2 at h
  split at h
  · cases h; rfl
  · cases h
def vSub : Expr → Option (Expr × Expr × Pos)
  | .Subscript a b p => some (a, b, p)
  | _ => none
theorem vSub_some {e : Expr} {r : Expr × Expr × Pos} (h : vSub e = some r) : e = .Subscript r.1 r.2.1 r.2.2 := by
  unfold vSub at h
  split at h
  · cases h; rfl
  · cases h
def addSub : Bop → Bool
  | .add => true
  | .sub => true
  | _ => false
mutual
def ckS (tb : Str → Option Fn) (sc : Scope) (fb : Str → Bool) (N : List Str) : S → Stmt → Bool
  | .asg t e, st => (match vAssign1 st with
    | some r => ckE tb sc fb N e r.2.1 && genAsg sc r.1 r.2.1 && ckT sc fb N t r.1
    | none => false)
  | .asgLc i own tg it c e, st => (match vAssign1 st with
    | some r => (match vName r.1 with
      | some n => (match vLc r.2.1 with
        | some l => ckE tb sc fb N (.lc own tg it c e) r.2.1 && swB sc n.1 n.2 r.2.1 l.2.2.2.2.1 && decide (N[i]? = some n.1)
        | none => false)
      | none => false)
    | none => false)
  | .par2 i j a b, st => (match vAssign1 st with
    | some r => (match vTup2 r.1 with
      | some l => (match vName l.1 with
        | some x => (match vName l.2.1 with
          | some y => (match vTup2 r.2.1 with
            | some q => decide (N[i]? = some x.1) && decide (N[j]? = some y.1) && parB sc x.1 y.1 x.2 y.2 q.1 q.2.1 && ckE tb sc fb N a q.1 && ckE tb sc fb N b q.2.1
            | none => false)
          | none => false)
        | none => false)
      | none => false)
    | none => false)
  | .aug i op e, st => (match st with
    | .AugAssign t o v _ => (match vName t with
      | some x => decide (N[i]? = some x.1) && locB sc fb x.1 && opB op o && addSub op && ckE tb sc fb N e v
      | none => false)
    | _ => false)
  | .put o i e, st => (match vAssign1 st with
    | some r => (match vSub r.1 with
      | some l => ckE tb sc fb N o l.1 && ckE tb sc fb N i l.2.1 && ckE tb sc fb N e r.2.1 && notComp r.2.1
      | none => false)
    | none => false)
  | .ite c a b, st => (match st with | .If x u v _ => ckE tb sc fb N c x && ckSs tb sc fb N a u && ckSs tb sc fb N b v | _ => false)
  | .for_ t it b, st => (match st with | .For tg x body o _ => ckT sc fb N t tg && ckIt tb sc fb N it tg x && ckSs tb sc fb N b body && o.isEmpty | _ => false)
  | .while_ c b, st => (match st with | .While x body o _ => ckE tb sc fb N c x && ckSs tb sc fb N b body && o.isEmpty | _ => false)
  | .ret e, st => (match st with | .Return o _ => (match o with | some x => ckE tb sc fb N e x | none => false) | _ => false)
  | .ret0, st => (match st with | .Return o _ => o.isNone | _ => false)
  | .expr e, st => (match st with | .Expr x _ => ckE tb sc fb N e x && notComp x | _ => false)
  | .brk, st => (match st with | .Break _ => true | _ => false)
  | .cont, st => (match st with | .Continue _ => true | _ => false)
  | .pass, st => (match st with | .Pass _ => true | _ => false)
def ckSs (tb : Str → Option Fn) (sc : Scope) (fb : Str → Bool) (N : List Str) : Ss → List Stmt → Bool
  | .nil, st => st.isEmpty
  | .cons s r, st => (match st with | x :: xs => ckS tb sc fb N s x && ckSs tb sc fb N r xs | [] => false)
end
theorem noswap {x : Expr} (h : notComp x = true) (t : Option Expr) (line : Nat) (env : PySem.Env) : swapsWith x t line env = pure false := by
  cases x <;> first | rfl | (simp [notComp] at h)
theorem noswapS {x : Expr} (h : notComp x = true) (t : Expr) (line : Nat) (env : PySem.Env) : swapsWithSole [t] x line env = pure false := by
  cases x <;> first | rfl | (simp [notComp] at h)
theorem swap_ok {env : PySem.Env} {y : Str} {py p : Pos} {elt : Expr} {gens : List Comprehension} {scope : Scope} (hk : env.scope.kind = .function) (h : swB env.scope y py (.ListComp elt gens scope p) scope = true) (line : Nat) :
    swapsWith (.ListComp elt gens scope p) (some (.Name y py)) line env = pure true ∧ env.scope.names.lookup y = some .local := by
  have kb : env.blockKind = .function := by unfold PySem.Env.blockKind; rw [hk]; rfl
  have hb : (PySem.Env.blockKind env == PySem.ScopeKind.function) = true := by rw [kb]; rfl
  constructor
  · show (pure (env.blockKind == .function && env.kindOf y == some .local && py.line == (Expr.ListComp elt gens scope p).pos.line && !(scope.names.any fun (n, k) => n == y && (k == .local || k == .cell))) : Sem Bool) = pure true
    rw [hb, Bool.true_and]
    exact congrArg pure h
  · unfold swB at h
    simp only [Bool.and_eq_true, beq_iff_eq] at h
    exact h.1.1
variable {tb : Str → Option Fn} {wf k : Nat}
theorem pss_nil_ : PSs X [] (tS g W fun ρ s => .nx ρ s) := PSs.imp pss_nil fun D σ H ⟨ι, ρ, s, re, rs, w⟩ => w ι H σ Ext.refl rs re
theorem pss_cons_ {st : Stmt} {r : List Stmt} {f1 f2 : Env → Sto → Fl} (h1 : PS X st (tS g W f1)) (h2 : PSs X r (tS g W f2)) : PSs X (st :: r) (tS g W fun ρ s => (f1 ρ s).then fun ρ s => f2 ρ s) :=
  PSs.imp (pss_cons h1 h2) fun D σ H ⟨ι, ρ, s, re, rs, w⟩ => ⟨ι, ρ, s, re, rs, by
    dsimp only at w
    cases hf : f1 ρ s with
    | nx ρ' s' =>
      rw [hf] at w
      exact fun ι' H' σ' x rs' re' => ⟨ι', ρ', s', re', rs', WpS.shift (m := f2 ρ' s') w x⟩
    | rt t s' => rw [hf] at w; exact w
    | bk ρ' s' => rw [hf] at w; exact w
    | ct ρ' s' => rw [hf] at w; exact w
    | ex ρ' x s' => rw [hf] at w; exact w
    | bad => rw [hf] at w; exact w⟩
theorem evSs_nil (cf : CallF) (wf : Nat) : evSs cf wf .nil = fun ρ s => .nx ρ s := by funext ρ s; rw [evSs.eq_def]
theorem evSs_cons (cf : CallF) (wf : Nat) (st : S) (r : Ss) : evSs cf wf (.cons st r) = fun ρ s => (evS cf wf st ρ s).then fun ρ s => evSs cf wf r ρ s := by funext ρ s; rw [evSs.eq_def]
mutual
theorem okS : ∀ (st : S) (x : Stmt) (W : WX) (X : Cx), CtxA g tb wf k W X → ckS tb X.env.scope X.fn X.N st x = true → PS X x (tS g W (evS (run tb wf k) wf st))
  | .asg t e, x, W, X, c, h => by
    unfold ckS at h
    split at h
    · rename_i r hr
      obtain rfl := vAssign1_some hr
      simp only [Bool.and_eq_true] at h
      obtain ⟨⟨he, hg⟩, ht⟩ := h
      obtain ⟨h1, h2⟩ := gen_ok (tg := r.1) c.kind hg r.2.2.line
      have ha : (assignEach [r.1] X.env).map (·.2) = [assign r.1 X.env] := by rw [ckT_star ht]; rfl
      exact ps_asg_ (okE e _ W X c he).1 (okT c.hK c.calm c.nd t _ ht) h1 h2 ha
    · cases h
  | .asgLc i own tg' it d e', x, W, X, c, h => by
    unfold ckS at h
    split at h
    · rename_i r hr
      obtain rfl := vAssign1_some hr
      split at h
      · rename_i n hn
        split at h
        · rename_i l hl
          have e1 := vName_some hn
          have e2 := vLc_some hl
          simp only [Bool.and_eq_true, decide_eq_true_eq] at h
          obtain ⟨⟨he, hw⟩, hx⟩ := h
          rw [e1, e2]
          rw [e2] at he hw
          obtain ⟨hsw, hloc⟩ := swap_ok c.kind hw r.2.2.line
          simp only [ckE, Bool.and_eq_true] at he
          obtain ⟨⟨⟨⟨⟨h1, h2⟩, h3⟩, h4⟩, h5⟩, h6⟩ := he
          have hsl : ∀ i ∈ tg'.slots, i ∈ own.map (·.2) := by simpa using h2
          exact ps_setLc_ c.hK c.calm c.nd hx hloc hsw (okIt it _ _ W X c h4).1 (blkOk_by h1) hsl (fun s H C cl fp => okT (X := X.blk s H l.2.2.2.2.1 (compEnvC l.2.2.2.2.1 cl C X.env) fp) c.hK c.calm c.nd tg' _ h3)
            (fun s H C cl fp => okC d _ noW _ (c.blk s H l.2.2.2.2.1 C cl fp (blkOk_by h1).kind) h5) (fun s H C cl fp => (okE e' _ noW _ (c.blk s H l.2.2.2.2.1 C cl fp (blkOk_by h1).kind) h6).1) (okIt it _ _ W X c h4).2
        · cases h
      · cases h
    · cases h
  | .par2 i j a b, x, W, X, c, h => by
    unfold ckS at h
    split at h
    · rename_i r hr
      obtain rfl := vAssign1_some hr
      split at h
      · rename_i l hl
        split at h
        · rename_i x hx
          split at h
          · rename_i y hy
            split at h
            · rename_i q hq
              simp only [Bool.and_eq_true, decide_eq_true_eq] at h
              obtain ⟨⟨⟨⟨h1, h2⟩, h3⟩, h4⟩, h5⟩ := h
              have e1 := vTup2_some hl
              rw [vName_some hx, vName_some hy] at e1
              rw [e1, vTup2_some hq]
              have hp := par_ok (kt := l.2.2.1) (pt := l.2.2.2) (k2 := q.2.2.1) (pt2 := q.2.2.2) c.kind h3
              have hxy : x.1 ≠ y.1 ∧ X.env.scope.names.lookup x.1 = some .local ∧ X.env.scope.names.lookup y.1 = some .local := by
                unfold parB at h3
                simp only [Bool.and_eq_true, Bool.not_eq_true', decide_eq_false_iff_not, beq_iff_eq] at h3
                exact ⟨h3.1.1.1.1.2, h3.1.1.1.1.1.1.1, h3.1.1.1.1.1.1.2⟩
              have hij : i ≠ j := fun e => by
                subst e
                rw [h1] at h2
                exact hxy.1 (Option.some.inj h2)
              have su := star_of (ck_star h4) [q.2.1] X.env
              have sv := star_of (ck_star h5) [] X.env
              exact ps_par_ c.calm c.nd h1 h2 hij hxy.2.1 hxy.2.2 (pa_cons_ (okE a _ W X c h4).1 (pa_cons_ (okE b _ W X c h5).1 pa_nil_ sv) su) hp
            · cases h
          · cases h
        · cases h
      · cases h
    · cases h
  | .aug i op e, x, W, X, c, h => by
    unfold ckS at h
    split at h
    · split at h
      · rename_i x hx
        simp only [Bool.and_eq_true, decide_eq_true_eq] at h
        obtain ⟨⟨⟨⟨h1, h2⟩, h3⟩, h4⟩, h5⟩ := h
        obtain ⟨h6, h7⟩ := locB_ok h2
        rw [opB_ok h3, vName_some hx]
        exact ps_aug_ c.nd h1 h6 h7 (okE e _ W X c h5).1 (by cases op <;> first | exact .inl rfl | exact .inr rfl | cases h4)
      · cases h
    · cases h
  | .put o i e, x, W, X, c, h => by
    unfold ckS at h
    split at h
    · rename_i r hr
      obtain rfl := vAssign1_some hr
      split at h
      · rename_i l hl
        simp only [Bool.and_eq_true] at h
        obtain ⟨⟨⟨h1, h2⟩, h3⟩, h4⟩ := h
        rw [vSub_some hl]
        exact ps_put_ (okE e _ W X c h3).1 (okE o _ W X c h1).1 (okE i _ W X c h2).1 (ck_star h2) (noswapS h4 _ _ _)
      · cases h
    · cases h
  | .ite d a b, x, W, X, c, h => by
    unfold ckS at h
    split at h
    · simp only [Bool.and_eq_true] at h
      obtain ⟨⟨h1, h2⟩, h3⟩ := h
      exact ps_if_ (okE d _ W X c h1).2 (okSs a _ W X c h2) (okSs b _ W X c h3)
    · cases h
  | .for_ t it b, x, W, X, c, h => by
    unfold ckS at h
    split at h
    · simp only [Bool.and_eq_true, List.isEmpty_iff] at h
      obtain ⟨⟨⟨h1, h2⟩, h3⟩, rfl⟩ := h
      obtain ⟨p1, p2⟩ := okIt it _ _ W X c h2
      exact ps_for_ c.po c.calm p1 (okT c.hK c.calm c.nd t _ h1) (okSs b _ W X c h3) p2
    · cases h
  | .while_ d b, x, W, X, c, h => by
    unfold ckS at h
    split at h
    · simp only [Bool.and_eq_true, List.isEmpty_iff] at h
      obtain ⟨⟨h1, h2⟩, rfl⟩ := h
      exact ps_while_ c.po (okE d _ W X c h1).2 (okSs b _ W X c h2)
    · cases h
  | .ret e, x, W, X, c, h => by
    unfold ckS at h
    split at h
    · split at h
      · exact ps_ret_ (okE e _ W X c h).1
      · cases h
    · cases h
  | .ret0, x, W, X, c, h => by
    unfold ckS at h
    split at h
    · simp only [Option.isNone_iff_eq_none] at h
      subst h
      exact ps_ret0_
    · cases h
  | .expr e, x, W, X, c, h => by
    unfold ckS at h
    split at h
    · simp only [Bool.and_eq_true] at h
      exact ps_expr_ (okE e _ W X c h.1).1 (noswap h.2 _ _ _)
    · cases h
  | .brk, x, W, X, c, h => by
    unfold ckS at h
    split at h
    · exact ps_brk_
    · cases h
  | .cont, x, W, X, c, h => by
    unfold ckS at h
    split at h
    · exact ps_cont_
    · cases h
  | .pass, x, W, X, c, h => by
    unfold ckS at h
    split at h
    · exact ps_pass_
    · cases h
theorem okSs : ∀ (st : Ss) (x : List Stmt) (W : WX) (X : Cx), CtxA g tb wf k W X → ckSs tb X.env.scope X.fn X.N st x = true → PSs X x (tS g W (evSs (run tb wf k) wf st))
  | .nil, x, W, X, c, h => by
    unfold ckSs at h
    rw [evSs_nil, List.isEmpty_iff.mp h]
    exact pss_nil_
  | .cons s r, x, W, X, c, h => by
    unfold ckSs at h
    split at h
    · simp only [Bool.and_eq_true] at h
      rw [evSs_cons]
      exact pss_cons_ (okS s _ W X c h.1) (okSs r _ W X c h.2)
    · cases h
end
end
end Fy
end
section
set_option Elab.async false
set_option linter.all false
set_option maxRecDepth 100000
set_option maxHeartbeats 1000000
/-! FyE: a def of the text keeps what the evaluator tells. -/
namespace Fy
open PySem PySem.Spec PyProof.Rows L2
section
variable {g : Glo} {ι ι' : List Addr} {H H' : Hp} {s s' : Sto}
mutual
theorem RD.cut {n : Nat} {d : D} {v : V} (r : RD g ι H d v) (u : D.under n d = true) : RD g (ι.take n) H d v := by
  cases r with
  | non => exact .non
  | bl b => exact .bl b
  | int i => exact .int i
  | str x => exact .str x
  | ty x => exact .ty x
  | gl x => exact .gl x
  | tup h r => exact .tup h (r.cut (by simpa [D.under] using u))
  | fro h r => exact .fro h (r.cut (by simpa [D.under] using u))
  | loc h =>
    have hn := of_decide_eq_true (show decide (_ < n) = true by simpa [D.under] using u)
    exact .loc (by rw [List.getElem?_take_of_lt hn]; exact h)
theorem RDs.cut {n : Nat} {d : List D} {v : List V} (r : RDs g ι H d v) (u : D.unders n d = true) : RDs g (ι.take n) H d v := by
  cases r with
  | nil => exact .nil
  | @cons x v xs vs r t =>
    have u' : D.under n x = true ∧ D.unders n xs = true := by simpa [D.unders] using u
    exact .cons (r.cut u'.1) (t.cut u'.2)
end
theorem RS.cut {n : Nat} (rs : RS g ι s H) (u : (s.take n).all (O.under n) = true) : RS g (ι.take n) (s.take n) H := by
  refine ⟨rs.nd.sublist (List.take_sublist _ _), by simp [rs.len], fun k o e => ?_⟩
  have hk : k < n := by
    have := (List.getElem?_eq_some_iff.mp e).1
    simp at this
    omega
  have uo : O.under n o = true := List.all_eq_true.mp u o (List.mem_of_getElem? e)
  rw [List.getElem?_take_of_lt hk] at e
  obtain ⟨a, ea, r⟩ := rs.at_ k o e
  refine ⟨a, by rw [List.getElem?_take_of_lt hk]; exact ea, ?_⟩
  cases o with
  | lst xs => obtain ⟨vs, e1, r1⟩ := r; exact ⟨vs, e1, r1.cut (by simpa [O.under] using uo)⟩
  | dic _ => exact r.elim
  | ins _ _ => exact r.elim
theorem pre_take (h : ι <+: ι') : ι'.take ι.length = ι := by
  obtain ⟨t, rfl⟩ := h
  simp
theorem Ext.cut (x : Ext ι H ι' H') : Ext ι H ι H' := ⟨List.prefix_refl _, x.keep, fun _ m n => absurd m n⟩
/-- behind a call what is left over is forgotten -/
theorem tidy_ok {W : WX} {σ : L2.St} {t : T} {v : V} {Q : VK} (h : Wp g W (rlT g) σ ι H (tidy ι.length t s') Q) (x : Ext ι H ι' H') (rs : RS g ι' s' H') (r : (rlT g).r H ι' H' t v) : Q v H' := by
  have keepAll : Wp g W (rlT g) σ ι H (.ok t s') Q → Q v H' := fun q => q ι' H' v x rs r
  have pt := pre_take x.pre
  unfold tidy at h
  split at h
  · rename_i hu
    have rs1 : RS g ι (s'.take ι.length) H' := by
      have q := rs.cut hu
      rw [pt] at q
      exact q
    split at h
    · -- a place
      rename_i m
      split at h
      · rename_i hm
        refine h ι H' v x.cut rs1 ⟨?_, trivial⟩
        cases r.1 with
        | v q =>
          cases q with
          | loc q =>
            refine .v (.loc ?_)
            rw [← pt, List.getElem?_take_of_lt hm]
            exact q
      · rename_i hm
        split at h
        · rename_i xs hs
          split at h
          · rename_i hx
            cases r.1 with
            | v q =>
              cases q with
              | @loc _ a q =>
                obtain ⟨b, eb, vs, e1, r1⟩ := rs.at_ m _ hs
                have e2 : b = a := by rw [q] at eb; exact (Option.some.inj eb).symm
                subst e2
                have na : b ∉ ι := fun mb => by
                  obtain ⟨j, hj, ej⟩ := List.mem_iff_getElem.mp mb
                  have e3 : ι'[j]? = some b := by
                    rw [← List.getElem?_take_of_lt hj, pt, List.getElem?_eq_getElem hj, ej]
                  obtain ⟨l1, q1⟩ := List.getElem?_eq_some_iff.mp e3
                  obtain ⟨l2, q2⟩ := List.getElem?_eq_some_iff.mp q
                  have := (List.getElem_inj rs.nd).mp (q1.trans q2.symm)
                  omega
                have r2 : RDs g ι H' xs vs := by
                  have z := r1.cut hx
                  rw [pt] at z
                  exact z
                exact h ι H' _ x.cut rs1 ⟨.l e1 na r2, b, rfl, x.new b (List.mem_of_getElem? q) na⟩
          · exact keepAll h
        · exact keepAll h
    · -- data
      rename_i d hd
      split at h
      · rename_i hx
        refine h ι H' v x.cut rs1 ⟨?_, trivial⟩
        cases r.1 with
        | v q =>
          have z := q.cut hx
          rw [pt] at z
          exact .v z
      · exact keepAll h
    · rename_i xs
      split at h
      · rename_i hx
        refine h ι H' v x.cut rs1 ⟨?_, r.2⟩
        cases r.1 with
        | l e1 n1 r1 =>
          have z := r1.cut hx
          rw [pt] at z
          exact .l e1 (fun m => n1 (x.pre.mem m)) z
      · exact keepAll h
  · exact keepAll h
theorem res_ok {σ : L2.St} {m : Fl} {Q : VK} {E : XK} (h : Wp g (fun c d _ H => E c d H) (rlT g) σ ι H (m.res ι.length) Q) :
    WpS g (fun c d _ H => E c d H) { nx := fun _ H' => Q .non H', rt := Q } ι H m := by
  cases m with
  | nx ρ s' => exact fun ι' H' σ' x rs re => tidy_ok h x rs (rlT.v .non)
  | rt t s' => exact fun ι' H' v x rs r => tidy_ok h x rs r
  | bk ρ s' => exact h.elim
  | ct ρ s' => exact h.elim
  | ex ρ y s' =>
    intro ι' H' σ' c d x rs re rx
    have h : Wp g (fun c d _ H => E c d H) (rlT g) σ ι H (if ((s'.take ι.length).all (O.under ι.length) && D.under ι.length y.val) = true then .ex y (s'.take ι.length) else .ex y s') Q := h
    split at h
    · rename_i hu
      simp only [Bool.and_eq_true] at hu
      have pt := pre_take x.pre
      have rs1 : RS g ι (s'.take ι.length) H' := by
        have q := rs.cut hu.1
        rw [pt] at q
        exact q
      obtain ⟨e1, dx, v, e2, e3, e4⟩ := rx
      have z := e4.cut hu.2
      rw [pt] at z
      exact h ι H' c d x.cut rs1 ⟨e1, dx, v, e2, e3, z⟩
    · exact h ι' H' c d x rs rx
  | bad => exact h.elim
theorem start_ok {N : List Str} {ds : List D} {vs : List V} (r : RDs g ι H ds vs) : RE g ι H (ds.map some ++ List.replicate (N.length - vs.length) none) (L2.start N vs) := by
  have hl := r.length
  refine ⟨by simp [L2.start, hl], fun i d h => ?_⟩
  by_cases hi : i < ds.length
  · rw [List.getElem?_append_left (by simpa using hi), List.getElem?_map] at h
    cases e : ds[i]? with
    | none => rw [e] at h; cases h
    | some d' =>
      rw [e] at h
      cases h
      obtain ⟨v, e1, r1⟩ := r.get e
      refine ⟨v, ?_, r1⟩
      unfold L2.start
      rw [List.getElem?_append_left (by rw [List.length_map]; omega), List.getElem?_map, e1]
      rfl
  · rw [List.getElem?_append_right (by simpa using hi), List.getElem?_replicate] at h
    split at h <;> cases h
end

/-- a def of the text and its IR -/
structure DefOk (g : Glo) (mg : Str → Option Value) (tb : Str → Option Fn) (f : Str) (d : Fn) : Prop where
  ok : ∃ (st : Stmt) (qual : Str) (fa : Addr) (fd : FuncData) (N ps : List Str), Fun g.K f qual st fa fd ∧ FnScope N ps (defScope st) ∧ ps.length = d.np ∧ N.length = d.nn ∧ mg f = some (.ref fa) ∧
    ckSs tb (defScope st) (fun _ => true) N d.body (defBody st) = true ∧
    ∀ n, n ≤ d.np → d.np - n ≤ d.dv.length → ∃ ds dvs, Binds g.K fd ps ds ∧ Vals dvs ds ∧ ∀ ι H, RDs g ι H (d.dv.drop (d.dv.length + n - d.np)) dvs
/-- what the top leaves to its names -/
structure TopOk (mg : Str → Option Value) : Prop where
  mgB : ∀ f, mg (biName f) = none
  mgI : mg "range" = none ∧ mg "zip" = none ∧ mg "enumerate" = none
  mgT : ∀ p ∈ tyNames, mg p.1 = none
theorem fn_step {g : Glo} {P : Program} {w : World} {mg : Str → Option Value} {base : Heap} {tb : Str → Option Fn} {wf k : Nat} {f qual : Str} {d : Fn} {st : Stmt} {fa : Addr} {fd : FuncData} {N ps : List Str} (T : TopOk mg)
    (ih : ∀ f d, tb f = some d → CallOk g P w mg base tb wf k f d) (h : tb f = some d) (F : Fun g.K f qual st fa fd) (S : FnScope N ps (defScope st)) (h1 : ps.length = d.np) (h2 : N.length = d.nn)
    (h4 : ckSs tb (defScope st) (fun _ => true) N d.body (defBody st) = true) : FnOk P w g.K mg base (L2.CX P w) (k + 1) fa fd ps (spF g tb wf (k + 1) f d.np) := by
  refine F.okX S (fun vs H Q E ⟨ι, s, ds, rs, r, hl, w⟩ => by rw [hl, h1]) fun cdv A outer s H vs Q E hr ⟨ι, st', ds, rs, r, hl, w'⟩ => ?_
  refine ⟨tS g (fun c d _ H => E c d H) (evSs (run tb wf k) wf d.body), ?_, ?_⟩
  · refine okSs (tb := tb) (wf := wf) (k := k) d.body (defBody st) (fun c d _ H => E c d H) _ ?_ h4
    exact ⟨rfl, rfl, S.nd, S.kind, passes_of rfl, hr, T.mgB, T.mgI, T.mgT, takes_of rfl rfl rfl rfl, fun f' d' h' => ih f' d' h'⟩
  · have hl2 := r.length
    have fl : d.fill ds = ds := by
      unfold Fn.fill
      rw [hl2, hl, Nat.add_sub_cancel, List.drop_length, List.append_nil]
    have er : run tb wf (k + 1) f ds st' = (evSs (run tb wf k) wf d.body (ds.map some ++ List.replicate (d.nn - d.np) none) st').res st'.length := by
      rw [run]
      simp only [h, fl, hl2, hl, if_true]
    rw [er] at w'
    refine ⟨ι, ds.map some ++ List.replicate (d.nn - d.np) none, st', ?_, rs, ?_⟩
    · have z := start_ok (N := N) r
      rw [h2, hl] at z
      exact z
    · rw [← rs.len] at w'
      exact res_ok w'
theorem fn_ok {g : Glo} {P : Program} {w : World} {mg : Str → Option Value} {base : Heap} {tb : Str → Option Fn} {wf : Nat} (T : TopOk mg) (hd : ∀ f d, tb f = some d → DefOk g mg tb f d) :
    ∀ k f d, tb f = some d → CallOk g P w mg base tb wf k f d := by
  intro k
  induction k with
  | zero =>
    intro f d h
    obtain ⟨st, qual, fa, fd, N, ps, F, S, h1, h2, h3, h4, h5⟩ := (hd f d h).ok
    refine ⟨fa, fd, ps, ⟨fun vs H Q E ⟨ι, s, ds, rs, r, hl, w⟩ => by rw [hl, h1], fun A outer s H args us vs Q E hr he hb hv ⟨ι, st, ds, rs, r, hl, w⟩ => ?_⟩, h1, h3, F.kp, h5⟩
    exact w.elim
  | succ k ih =>
    intro f d h
    obtain ⟨st, qual, fa, fd, N, ps, F, S, h1, h2, h3, h4, h5⟩ := (hd f d h).ok
    exact ⟨fa, fd, ps, fn_step T ih h F S h1 h2 h4, h1, h3, F.kp, h5⟩
/-- the law's call: the evaluator gives True, whatever the script -/
theorem law_sp {g : Glo} {tb : Str → Option Fn} {wf k : Nat} {f : Str} {H : Hp} {a : Addr} {ns : List Int} (hO : Only H) (hS : SqL g.K H a (ns.map V.int)) (h : ∃ s, run tb wf k f [.fro (ns.map .int)] [] = .ok (.v (.bl true)) s) :
    spF g tb wf k f 1 [V.ref a] H (fun v _ => v = V.bl true) (fun _ _ _ => False) := by
  obtain ⟨s, e⟩ := h
  have hF : SqF g.K H a (ns.map V.int) := by
    rcases hS with (q | q) | q
    · rcases hO a with z | ⟨o, xs, z⟩ <;> (rw [q] at z; cases z)
    · exact .inl q
    · exact .inr q
  have r : ∀ ms : List Int, RDs g [] H (ms.map D.int) (ms.map V.int) := fun ms => by
    induction ms with
    | nil => exact .nil
    | cons n ms ih => exact .cons (.int n) ih
  refine ⟨[], [], [.fro (ns.map .int)], ⟨List.nodup_nil, rfl, fun n o h => by simp at h⟩, .cons (.fro hF (r ns)) .nil, rfl, ?_⟩
  rw [e]
  intro ι' H' v _ _ q
  exact q.1.bl_
end Fy
end
section
set_option Elab.async false
set_option linter.all false
set_option maxRecDepth 100000
/-! FyF: the law's end. -/
namespace Fy
open PySem PySem.Spec PyProof.Rows L2
/-- what the law's def is asked for: a script in, True out -/
def spLaw (K : PySem.W.Frag) : Sp := fun vs H Q _ => ∃ (a : Addr) (ns : List Int), vs = [.ref a] ∧ ns.length ≤ 63 ∧ Only H ∧ SqL K H a (ns.map V.int) ∧ ∀ H', Q (.bl true) H'
/-- where the text's own things stand -/
def gaOf (mg : Str → Option Value) (x : Str) : Addr :=
  match mg x with
  | some (.ref a) => a
  | _ => 0
theorem binds0 {K : PySem.W.Frag} {fd : FuncData} {ps : List Str} {g : Glo} {d : Fn} (B : L2.Binds g.K fd ps []) (hl : ps.length = d.np) (hd : d.dv = []) : ∀ n, n ≤ d.np → d.np - n ≤ d.dv.length → ∃ ds dvs, L2.Binds g.K fd ps ds ∧ Vals dvs ds ∧ ∀ ι H, RDs g ι H (d.dv.drop (d.dv.length + n - d.np)) dvs := fun n h1 h2 =>
  ⟨[], [], B, .nil, fun ι H => by rw [hd]; simp; exact .nil⟩
theorem law_end {g : Glo} {P : Program} {w : World} {mg : Str → Option Value} {base : Heap} {tb : Str → Option Fn} {wf k : Nat} {fa : Addr} {fd : FuncData} {ps : List Str} {d : Fn} (hd : d.np = 1)
    (F : FnOk P w g.K mg base (L2.CX P w) k fa fd ps (spF g tb wf k "law" d.np)) (h : ∀ ns : List Int, ns.length ≤ 63 → ∃ s, run tb wf k "law" [.fro (ns.map .int)] [] = .ok (.v (.bl true)) s) :
    FnOk P w g.K mg base (L2.CX P w) k fa fd ps (spLaw g.K) :=
  F.imp fun vs H Q E ⟨a, ns, e, hl, hO, hS, q⟩ => by
    subst e
    obtain ⟨ι, s, ds, rs, r, hlen, w'⟩ := law_sp (wf := wf) (k := k) (tb := tb) (f := "law") (g := g) hO hS (h ns hl)
    refine ⟨ι, s, ds, rs, r, by rw [hlen, hd], ?_⟩
    cases hr : run tb wf k "law" ds s with
    | ok t s' =>
      rw [hr] at w'
      intro ι' H' v x rs' rt
      have ev : v = .bl true := w' ι' H' v x rs' rt
      subst ev
      exact q H'
    | ex y s' =>
      rw [hr] at w'
      intro ι' H' c d x rs' rx
      exact (w' ι' H' c d x rs' rx).elim
    | bad => rw [hr] at w'; exact w'.elim
theorem cx_false {P : Program} {w : World} {outer : List PySem.Env} {H : Hp} {s s' : Shared} {e : Value} (h : L2.CX P w outer H s (fun _ _ _ => False) e s') : False := by
  obtain ⟨_, _, _, _, _, _, _, _, _, _, _, _, z⟩ := h
  exact z
end Fy
end
section
set_option Elab.async false
set_option linter.all false
set_option maxRecDepth 100000
namespace K21
open PySem L2 Fy
/-! ### the text, by places -/
def top (i : Nat) : Stmt := PySem.Challenge.pw_fairneed_k21_whole_rows_that_read_well.main.body.getD i (.Pass ⟨0, 0, 0, 0⟩)
abbrev st_reads : Stmt := top 1
abbrev st__law_well : Stmt := top 3
abbrev st__law_dip : Stmt := top 4
abbrev st__law_like : Stmt := top 5
abbrev st__law_reads : Stmt := top 6
abbrev st__law_entry : Stmt := top 7
abbrev st__law_rows : Stmt := top 8
abbrev st__law_some : Stmt := top 9
abbrev st__law_named : Stmt := top 10
abbrev st_law : Stmt := top 11
/-! ### the IR -/
def f_reads : Fn := ⟨4, 8, [],
    (.cons (.for_ (.tp (.cons (.tp (.cons (.nm 4) (.cons (.nm 5) .nil))) (.cons (.tp (.cons (.nm 6) (.cons (.nm 7) .nil))) .nil))) (.zip (.var 0) (.var 1)) (.cons (.ite (.cmp .lt (.var 6) (.var 4)) (.cons (.ret (.bl true))
    .nil) .nil)
    (.cons (.ite (.or2 (.cmp .inn (.var 5) (.var 2)) (.cmp .gt (.tup (.cons (.var 6) (.cons (.var 7) .nil))) (.tup (.cons (.var 4) (.cons (.var 5) .nil))))) (.cons (.ret (.bl false))
    .nil) .nil)
    (.cons (.ite (.or2 (.cmp .lt (.tup (.cons (.var 6) (.cons (.var 7) .nil))) (.tup (.cons (.var 4) (.cons (.var 5) .nil)))) (.cmp .inn (.var 5) (.var 3))) (.cons (.ret (.bl true))
    .nil) .nil)
    .nil))))
    (.cons (.ret (.bl false))
    .nil))⟩
def f__law_well : Fn := ⟨2, 3, [],
    (.cons (.asg (.nm 2) (.bin .add (.bin .mul (.int 5501) (.var 1)) (.int 733)))
    (.cons (.ite (.cmp .lt (.var 1) (.bi .len (.cons (.var 0) .nil))) (.cons (.asg (.nm 2) (.bin .mod (.bi .int (.cons (.bi .abs (.cons (.idx (.var 0) (.var 1)) .nil)) .nil)) (.bin .pow (.int 10) (.int 60))))
    .nil) (.cons (.ite (.cmp .gt (.bi .len (.cons (.var 0) .nil)) (.int 0)) (.cons (.asg (.nm 2) (.bin .add (.var 2) (.bin .mul (.bin .mod (.bi .int (.cons (.bi .abs (.cons (.idx (.var 0) (.bin .mod (.bi .int (.cons (.var 1) .nil)) (.bi .len (.cons (.var 0) .nil)))) .nil)) .nil)) (.int 2147483563)) (.int 60013))))
    .nil) .nil)
    .nil))
    (.cons (.ret (.lst (.cons (.idx (.lst (.cons (.int 0) (.cons (.var 2) .nil))) (.bi .int (.cons (.cmp .ge (.var 2) (.bin .pow (.int 10) (.int 18))) .nil))) (.cons (.bin .add (.bin .mod (.bi .int (.cons (.bin .add (.bin .mul (.bin .mod (.bi .int (.cons (.var 2) .nil)) (.int 2147483563)) (.int 45007)) (.bin .mul (.int 42013) (.var 1))) .nil)) (.int 2147483563)) (.int 1)) (.cons (.int 0) .nil)))))
    .nil)))⟩
def f__law_dip : Fn := ⟨2, 4, [],
    (.cons (.ite (.cmp .gt (.idx (.var 0) (.int 0)) (.int 0)) (.cons (.asg (.nm 2) (.bin .mod (.bi .int (.cons (.idx (.var 0) (.int 0)) .nil)) (.var 1)))
    (.cons (.put (.var 0) (.int 0) (.bin .fdiv (.idx (.var 0) (.int 0)) (.var 1)))
    (.cons (.ret (.var 2))
    .nil))) .nil)
    (.cons (.put (.var 0) (.int 2) (.bin .add (.idx (.var 0) (.int 2)) (.int 1)))
    (.cons (.asg (.nm 3) (.bin .mod (.bi .int (.cons (.bin .add (.bin .mul (.bin .add (.idx (.var 0) (.int 1)) (.bin .mul (.int 88001) (.idx (.var 0) (.int 2)))) (.int 57037)) (.int 61)) .nil)) (.int 2147483549)))
    (.cons (.put (.var 0) (.int 1) (.bin .add (.bin .mod (.bi .int (.cons (.bin .add (.bin .mul (.var 3) (.int 41141)) (.int 21013)) .nil)) (.int 2147483563)) (.int 1)))
    (.cons (.ret (.bin .mod (.bi .int (.cons (.bin .fdiv (.bin .add (.bin .mul (.var 3) (.int 2147483587)) (.idx (.var 0) (.int 1))) (.int 8209)) .nil)) (.var 1)))
    .nil)))))⟩
def f__law_like : Fn := ⟨2, 3, [],
    (.cons (.ite (.bi .isinst (.cons (.var 1) (.cons (.tyn "tuple" "tuple") .nil))) (.cons (.ret (.and2 (.bi .isinst (.cons (.var 0) (.cons (.tyn "tuple" "tuple") .nil))) (.and2 (.cmp .eq (.bi .len (.cons (.var 0) .nil)) (.bi .len (.cons (.var 1) .nil))) (.bi .all (.cons (.lc [("at", 2)] (.nm 2) (.rng (.cons (.bi .len (.cons (.var 1) .nil)) .nil)) .none (.call "_law_like" (.cons (.idx (.var 0) (.var 2)) (.cons (.idx (.var 1) (.var 2)) .nil)))) .nil)))))
    .nil) .nil)
    (.cons (.ite (.cmp .is (.var 1) .non) (.cons (.ret (.cmp .is (.var 0) .non))
    .nil) .nil)
    (.cons (.ite (.bi .isinst (.cons (.var 1) (.cons (.tyn "bool" "bool") .nil))) (.cons (.ret (.and2 (.bi .isinst (.cons (.var 0) (.cons (.tyn "bool" "bool") .nil))) (.cmp .eq (.var 0) (.var 1))))
    .nil) .nil)
    (.cons (.ite (.bi .isinst (.cons (.var 1) (.cons (.tyn "str" "str") .nil))) (.cons (.ret (.and2 (.bi .isinst (.cons (.var 0) (.cons (.tyn "str" "str") .nil))) (.cmp .eq (.var 0) (.var 1))))
    .nil) .nil)
    (.cons (.ret (.and2 (.bi .isinst (.cons (.var 0) (.cons (.tyn "int" "int") .nil))) (.and2 (.not1 (.bi .isinst (.cons (.var 0) (.cons (.tyn "bool" "bool") .nil)))) (.cmp .eq (.var 0) (.var 1)))))
    .nil)))))⟩
def f__law_reads : Fn := ⟨4, 7, [],
    (.cons (.for_ (.nm 4) (.rng (.cons (.bi .min (.cons (.bi .len (.cons (.var 0) .nil)) (.cons (.bi .len (.cons (.var 1) .nil)) .nil))) .nil)) (.cons (.par2 5 6 (.idx (.var 0) (.var 4)) (.idx (.var 1) (.var 4)))
    (.cons (.ite (.cmp .lt (.idx (.var 6) (.int 0)) (.idx (.var 5) (.int 0))) (.cons (.ret (.bl true))
    .nil) .nil)
    (.cons (.ite (.cmp .inn (.idx (.var 5) (.int 1)) (.var 2)) (.cons (.ret (.bl false))
    .nil) .nil)
    (.cons (.ite (.cmp .ne (.var 6) (.var 5)) (.cons (.ret (.cmp .lt (.var 6) (.var 5)))
    .nil) .nil)
    (.cons (.ite (.cmp .inn (.idx (.var 5) (.int 1)) (.var 3)) (.cons (.ret (.bl true))
    .nil) .nil)
    .nil))))))
    (.cons (.ret (.bl false))
    .nil))⟩
def f__law_entry : Fn := ⟨2, 2, [],
    (.cons (.ret (.tup (.cons (.bin .mul (.call "_law_dip" (.cons (.var 0) (.cons (.int 3) .nil))) (.var 1)) (.cons (.call "_law_dip" (.cons (.var 0) (.cons (.int 4) .nil))) .nil))))
    .nil)⟩
def f__law_rows : Fn := ⟨2, 6, [],
    (.cons (.asg (.nm 2) (.bi .tuple (.cons (.lc [("at", 5)] (.nm 5) (.rng (.cons (.bin .add (.int 1) (.call "_law_dip" (.cons (.var 0) (.cons (.int 4) .nil)))) .nil)) .none (.call "_law_entry" (.cons (.var 0) (.cons (.var 1) .nil)))) .nil)))
    (.cons (.asg (.nm 3) (.call "_law_dip" (.cons (.var 0) (.cons (.bin .add (.bi .len (.cons (.var 2) .nil)) (.int 1)) .nil))))
    (.cons (.asg (.nm 4) (.bin .add (.slc (.var 2) .none (.some (.var 3))) (.bi .tuple (.cons (.lc [("at", 5)] (.nm 5) (.rng (.cons (.call "_law_dip" (.cons (.var 0) (.cons (.int 3) .nil))) .nil)) .none (.call "_law_entry" (.cons (.var 0) (.cons (.var 1) .nil)))) .nil))))
    (.cons (.ret (.tup (.cons (.var 2) (.cons (.ite (.cmp .ne (.var 4) (.tup .nil)) (.var 4) (.var 2)) .nil))))
    .nil))))⟩
def f__law_some : Fn := ⟨1, 2, [],
    (.cons (.ret (.bi .tuple (.cons (.lc [("k", 1)] (.nm 1) (.rng (.cons (.int 4) .nil)) (.some (.cmp .eq (.call "_law_dip" (.cons (.var 0) (.cons (.int 3) .nil))) (.int 0))) (.var 1)) .nil)))
    .nil)⟩
def f__law_named : Fn := ⟨2, 4, [],
    (.cons (.ret (.bi .tuple (.cons (.lc [("number", 2), ("k", 3)] (.tp (.cons (.nm 2) (.cons (.nm 3) .nil))) (.seq (.var 0)) .none (.tup (.cons (.bin .add (.var 2) (.bin .pow (.int 10) (.int 30))) (.cons (.idx (.var 1) (.var 3)) .nil)))) .nil)))
    .nil)⟩
def f_law : Fn := ⟨1, 13, [],
    (.cons (.asg (.nm 1) (.call "_law_well" (.cons (.var 0) (.cons (.int 0) .nil))))
    (.cons (.for_ (.nm 2) (.rng (.cons (.int 40) .nil)) (.cons (.asg (.nm 3) (.idx (.lst (.cons (.int 1) (.cons (.int 1) (.cons (.bin .pow (.int 10) (.int 20)) .nil)))) (.call "_law_dip" (.cons (.var 1) (.cons (.int 3) .nil)))))
    (.cons (.asg (.tp (.cons (.nm 4) (.cons (.nm 5) .nil))) (.call "_law_rows" (.cons (.var 1) (.cons (.var 3) .nil))))
    (.cons (.par2 6 7 (.call "_law_some" (.cons (.var 1) .nil)) (.call "_law_some" (.cons (.var 1) .nil)))
    (.cons (.ite (.cmp .eq (.call "_law_dip" (.cons (.var 1) (.cons (.int 2) .nil))) (.int 0)) (.cons (.asg (.nm 6) (.tup .nil))
    .nil) .nil)
    (.cons (.asg (.nm 8) (.call "_law_reads" (.cons (.var 4) (.cons (.var 5) (.cons (.var 6) (.cons (.var 7) .nil))))))
    (.cons (.ite (.not1 (.call "_law_like" (.cons (.call "reads" (.cons (.var 4) (.cons (.var 5) (.cons (.var 6) (.cons (.var 7) .nil))))) (.cons (.var 8) .nil)))) (.cons (.ret (.bl false))
    .nil) .nil)
    (.cons (.asg (.nm 9) (.tup (.cons (.call "_law_dip" (.cons (.var 1) (.cons (.int 2) .nil))) (.cons (.bin .add (.int 2) (.call "_law_dip" (.cons (.var 1) (.cons (.int 2) .nil)))) (.cons (.bin .add (.int 4) (.call "_law_dip" (.cons (.var 1) (.cons (.int 9) .nil)))) (.cons (.bin .add (.int 13) (.call "_law_dip" (.cons (.var 1) (.cons (.int 9) .nil)))) .nil))))))
    (.cons (.asgLc 10 [("lot", 11)] (.nm 11) (.seq (.tup (.cons (.var 6) (.cons (.var 7) .nil)))) .none (.bi .tuple (.cons (.lc [("k", 12)] (.nm 12) (.seq (.var 11)) .none (.idx (.var 9) (.var 12))) .nil)))
    (.cons (.ite (.not1 (.call "_law_like" (.cons (.call "reads" (.cons (.call "_law_named" (.cons (.var 4) (.cons (.var 9) .nil))) (.cons (.call "_law_named" (.cons (.var 5) (.cons (.var 9) .nil))) (.cons (.idx (.var 10) (.int 0)) (.cons (.idx (.var 10) (.int 1)) .nil))))) (.cons (.var 8) .nil)))) (.cons (.ret (.bl false))
    .nil) .nil)
    .nil))))))))))
    (.cons (.ret (.bl true))
    .nil)))⟩
def tbl : Str → Option Fn := fun f =>
  if f = "reads" then some f_reads else
  if f = "_law_well" then some f__law_well else
  if f = "_law_dip" then some f__law_dip else
  if f = "_law_like" then some f__law_like else
  if f = "_law_reads" then some f__law_reads else
  if f = "_law_entry" then some f__law_entry else
  if f = "_law_rows" then some f__law_rows else
  if f = "_law_some" then some f__law_some else
  if f = "_law_named" then some f__law_named else
  if f = "law" then some f_law else
  none
/-! ### names and checks -/
theorem sc_reads : FnScope ["row", "other", "done", "able", "rank", "k", "next_rank", "next_k"] ["row", "other", "done", "able"] (defScope st_reads) := ⟨rfl, rfl, rfl, by decide +kernel, rfl, by decide +kernel, by decide +kernel⟩
theorem sc__law_well : FnScope ["script", "k", "cell"] ["script", "k"] (defScope st__law_well) := ⟨rfl, rfl, rfl, by decide +kernel, rfl, by decide +kernel, by decide +kernel⟩
theorem sc__law_dip : FnScope ["well", "many", "digit", "raw"] ["well", "many"] (defScope st__law_dip) := ⟨rfl, rfl, rfl, by decide +kernel, rfl, by decide +kernel, by decide +kernel⟩
theorem sc__law_like : FnScope ["told", "due", "at"] ["told", "due"] (defScope st__law_like) := ⟨rfl, rfl, rfl, by decide +kernel, rfl, by decide +kernel, by decide +kernel⟩
theorem sc__law_reads : FnScope ["row", "other", "done", "able", "at", "one", "next_one"] ["row", "other", "done", "able"] (defScope st__law_reads) := ⟨rfl, rfl, rfl, by decide +kernel, rfl, by decide +kernel, by decide +kernel⟩
theorem sc__law_entry : FnScope ["well", "great"] ["well", "great"] (defScope st__law_entry) := ⟨rfl, rfl, rfl, by decide +kernel, rfl, by decide +kernel, by decide +kernel⟩
theorem sc__law_rows : FnScope ["well", "great", "row", "many", "other", "at"] ["well", "great"] (defScope st__law_rows) := ⟨rfl, rfl, rfl, by decide +kernel, rfl, by decide +kernel, by decide +kernel⟩
theorem sc__law_some : FnScope ["well", "k"] ["well"] (defScope st__law_some) := ⟨rfl, rfl, rfl, by decide +kernel, rfl, by decide +kernel, by decide +kernel⟩
theorem sc__law_named : FnScope ["row", "names", "number", "k"] ["row", "names"] (defScope st__law_named) := ⟨rfl, rfl, rfl, by decide +kernel, rfl, by decide +kernel, by decide +kernel⟩
theorem sc_law : FnScope ["script", "well", "turn", "great", "row", "other", "done", "able", "due", "names", "lots", "lot", "k"] ["script"] (defScope st_law) := ⟨rfl, rfl, rfl, by decide +kernel, rfl, by decide +kernel, by decide +kernel⟩
theorem ck_reads : ckSs tbl (defScope st_reads) (fun _ => true) ["row", "other", "done", "able", "rank", "k", "next_rank", "next_k"] f_reads.body (defBody st_reads) = true := by decide +kernel
theorem ck__law_well : ckSs tbl (defScope st__law_well) (fun _ => true) ["script", "k", "cell"] f__law_well.body (defBody st__law_well) = true := by decide +kernel
theorem ck__law_dip : ckSs tbl (defScope st__law_dip) (fun _ => true) ["well", "many", "digit", "raw"] f__law_dip.body (defBody st__law_dip) = true := by decide +kernel
theorem ck__law_like : ckSs tbl (defScope st__law_like) (fun _ => true) ["told", "due", "at"] f__law_like.body (defBody st__law_like) = true := by decide +kernel
theorem ck__law_reads : ckSs tbl (defScope st__law_reads) (fun _ => true) ["row", "other", "done", "able", "at", "one", "next_one"] f__law_reads.body (defBody st__law_reads) = true := by decide +kernel
theorem ck__law_entry : ckSs tbl (defScope st__law_entry) (fun _ => true) ["well", "great"] f__law_entry.body (defBody st__law_entry) = true := by decide +kernel
theorem ck__law_rows : ckSs tbl (defScope st__law_rows) (fun _ => true) ["well", "great", "row", "many", "other", "at"] f__law_rows.body (defBody st__law_rows) = true := by decide +kernel
theorem ck__law_some : ckSs tbl (defScope st__law_some) (fun _ => true) ["well", "k"] f__law_some.body (defBody st__law_some) = true := by decide +kernel
theorem ck__law_named : ckSs tbl (defScope st__law_named) (fun _ => true) ["row", "names", "number", "k"] f__law_named.body (defBody st__law_named) = true := by decide +kernel
theorem ck_law : ckSs tbl (defScope st_law) (fun _ => true) ["script", "well", "turn", "great", "row", "other", "done", "able", "due", "names", "lots", "lot", "k"] f_law.body (defBody st_law) = true := by decide +kernel
theorem tbl_reads : tbl "reads" = some f_reads := by kernel_rfl
theorem tbl__law_well : tbl "_law_well" = some f__law_well := by kernel_rfl
theorem tbl__law_dip : tbl "_law_dip" = some f__law_dip := by kernel_rfl
theorem tbl__law_like : tbl "_law_like" = some f__law_like := by kernel_rfl
theorem tbl__law_reads : tbl "_law_reads" = some f__law_reads := by kernel_rfl
theorem tbl__law_entry : tbl "_law_entry" = some f__law_entry := by kernel_rfl
theorem tbl__law_rows : tbl "_law_rows" = some f__law_rows := by kernel_rfl
theorem tbl__law_some : tbl "_law_some" = some f__law_some := by kernel_rfl
theorem tbl__law_named : tbl "_law_named" = some f__law_named := by kernel_rfl
theorem tbl_law : tbl "law" = some f_law := by kernel_rfl
end K21
end
section
set_option maxRecDepth 100000
set_option maxHeartbeats 1000000
set_option linter.unusedSimpArgs false
namespace K21
open Fy
open PySem (PyData)
/-! ### the well -/
def Wl (w : Int × Int × Int) (r : Sto) : Sto := .lst [.int w.1, .int w.2.1, .int w.2.2] :: r
/-- nothing leads out of what stands beside -/
def Pure (r : Sto) : Prop := ∀ n, r.all (O.under n) = true
/-- a well that may be drawn from; n: how often at most it has been -/
def Ok (n : Int) (w : Int × Int × Int) : Prop := 0 ≤ w.1 ∧ 1 ≤ w.2.1 ∧ w.2.1 ≤ 2147483563 ∧ 0 ≤ w.2.2 ∧ w.2.2 ≤ n ∧ n ≤ 1000000000
theorem Ok.cast {a b : Int} {w : Int × Int × Int} (h : Ok a w) (e : a = b) : Ok b w := e ▸ h
theorem Wl_len (w : Int × Int × Int) (r : Sto) : (Wl w r).length = r.length + 1 := rfl
theorem tidy_v {n : Nat} {w : Int × Int × Int} {r : Sto} (hr : Pure r) (hn : n = r.length + 1) (d : D) (hd : D.under n d = true) (hl : ∀ m, d ≠ .loc m) : tidy n (.v d) (Wl w r) = .ok (.v d) (Wl w r) := by
  subst hn
  have e1 : (Wl w r).take (r.length + 1) = Wl w r := by unfold Wl; simp
  have e2 : (Wl w r).all (O.under (r.length + 1)) = true := by
    unfold Wl
    simp only [List.all_cons, hr _, Bool.and_true, O.under, D.unders, D.under]
  unfold tidy
  rw [e1, e2]
  cases d <;> first | (simp [hd]; done) | exact absurd rfl (hl _)
theorem tidy_l {n : Nat} {w : Int × Int × Int} {r : Sto} (hr : Pure r) (hn : n = r.length + 1) (xs : List D) (hd : D.unders n xs = true) : tidy n (.l xs) (Wl w r) = .ok (.l xs) (Wl w r) := by
  subst hn
  have e1 : (Wl w r).take (r.length + 1) = Wl w r := by unfold Wl; simp
  have e2 : (Wl w r).all (O.under (r.length + 1)) = true := by
    unfold Wl
    simp only [List.all_cons, hr _, Bool.and_true, O.under, D.unders, D.under]
  unfold tidy
  rw [e1, e2]
  simp [hd]
theorem dip (k : Nat) {n : Int} {w : Int × Int × Int} {m : Int} {r : Sto} (hw : Ok n w) (hn : n + 1 ≤ 1000000000) (hm : 0 < m) (hm2 : m < 1000) (hr : Pure r) :
    ∃ d w', 0 ≤ d ∧ d < m ∧ Ok (n + 1) w' ∧ run tbl 1000 (k+1) "_law_dip" [.loc 0, .int m] (Wl w r) = .ok (.v (.int d)) (Wl w' r) := by
  obtain ⟨a, b, c⟩ := w
  obtain ⟨h1, h2, h3, h4, h5, h6⟩ := hw
  simp only at h1 h2 h3 h4 h5
  have h9 : divOk m = true := divOk_of hm (by omega)
  have d1 := Int.emod_nonneg a (show m ≠ 0 by omega)
  have d2 := Int.emod_lt_of_pos a hm
  by_cases ha : 0 < a
  · refine ⟨a % m, (a / m, b, c), d1, d2, ⟨Int.ediv_nonneg h1 (by omega), h2, h3, h4, by simp only; omega, hn⟩, ?_⟩
    rw [run, tbl__law_dip]
    simp [f__law_dip, Fn.fill, evSs, evS, evE, evEs, evTs, truth, cmpT, ordT, ordI, idxT, seqOf, lstOf, lstAt, L2.atI, L2.ixN, binT, biT, bindT, putAt, Fl.then, Fl.res, Wl, tidy, ha, hm, h9, O.under, D.unders, D.under, hr _]
  · have e0 : a = 0 := by omega
    subst e0
    -- the numbers that are stirred
    have g1 : mulOk 88001 (c + 1) = true := mulOk_of (by decide) (by omega)
    have g2 : mulOk (b + 88001 * (c + 1)) 57037 = true := mulOk_of (by omega) (by decide)
    generalize hraw : ((b + 88001 * (c + 1)) * 57037 + 61) % 2147483549 = raw
    have r1 : 0 ≤ raw := by rw [← hraw]; exact Int.emod_nonneg _ (by decide)
    have r2 : raw < 2147483549 := by rw [← hraw]; exact Int.emod_lt_of_pos _ (by decide)
    have g3 : mulOk raw 41141 = true := mulOk_of (by omega) (by decide)
    have g4 : mulOk raw 2147483587 = true := mulOk_of (by omega) (by decide)
    have g5 : divOk 8209 = true := by decide
    refine ⟨((raw * 2147483587 + ((raw * 41141 + 21013) % 2147483563 + 1)) / 8209) % m, (0, (raw * 41141 + 21013) % 2147483563 + 1, c + 1), Int.emod_nonneg _ (by omega), Int.emod_lt_of_pos _ hm, ⟨by simp, by simp only; omega, by simp only; omega, by simp only; omega, by simp only; omega, hn⟩, ?_⟩
    rw [run, tbl__law_dip]
    simp [f__law_dip, Fn.fill, evSs, evS, evE, evEs, evTs, truth, cmpT, ordT, ordI, idxT, seqOf, lstOf, lstAt, L2.atI, L2.ixN, binT, biT, bindT, putAt, Fl.then, Fl.res, Wl, tidy, hm, g1, g2, g3, g4, g5, hraw, O.under, D.unders, D.under, hr _]
/-! ### entries and rows -/
def pr (p : Int × Int) : D := .tup [.int p.1, .int p.2]
theorem entry (k : Nat) {n : Int} {w : Int × Int × Int} {g : Int} {r : Sto} (hw : Ok n w) (hn : n + 2 ≤ 1000000000) (hg : g.natAbs < 2 ^ 100) (hr : Pure r) :
    ∃ p w', 0 ≤ p.2 ∧ p.2 < 4 ∧ Ok (n + 2) w' ∧ run tbl 1000 (k+2) "_law_entry" [.loc 0, .int g] (Wl w r) = .ok (.v (pr p)) (Wl w' r) := by
  obtain ⟨d, w1, d1, d2, o1, e1⟩ := dip k hw (by omega) (show (0 : Int) < 3 by decide) (by decide) hr
  obtain ⟨e, w2, d3, d4, o2, e2⟩ := dip k o1 (by omega) (show (0 : Int) < 4 by decide) (by decide) hr
  have m1 : mulOk d g = true := mulOk_of (by omega) (by omega)
  have hL : (2 : Nat) ≤ LIM := by decide
  refine ⟨(d * g, e), w2, d3, d4, o2.cast (by omega), ?_⟩
  rw [run, tbl__law_entry]
  simp [f__law_entry, Fn.fill, evSs, evS, evE, evEs, e1, e2, binT, m1, Fl.then, Fl.res, Wl_len, hL, pr, tidy_v hr rfl, D.under, D.unders]
theorem lc_dips {F : D → Sto → R (Option D)} {r : Sto} {P : D → Prop} {j : Int} (hj : 0 ≤ j) (hF : ∀ x n w, Ok n w → n + j ≤ 1000000000 → ∃ d w', P d ∧ Ok (n + j) w' ∧ F x (Wl w r) = .ok (some d) (Wl w' r)) :
    ∀ (xs acc : List D) (n : Int) (w : Int × Int × Int), Ok n w → n + j * xs.length ≤ 1000000000 → acc.length + xs.length ≤ LIM → ∃ ds w', (∀ d ∈ ds, P d) ∧ ds.length = xs.length ∧ Ok (n + j * xs.length) w' ∧ lcLoop F [] xs acc (Wl w r) = .ok (.l (acc ++ ds)) (Wl w' r)
  | [], acc, n, w, h, hn, hl => ⟨[], w, by simp, rfl, by simpa using h, by simp [lcLoop, stands]⟩
  | x :: xs, acc, n, w, h, hn, hl => by
    simp only [List.length_cons, Int.natCast_add, Int.natCast_one, Int.mul_add, Int.mul_one] at hn hl
    have hx : 0 ≤ j * (xs.length : Int) := Int.mul_nonneg hj (Int.natCast_nonneg _)
    obtain ⟨d, w1, p1, o1, e1⟩ := hF x n w h (by omega)
    obtain ⟨ds, w2, p2, l2, o2, e2⟩ := lc_dips hj hF xs (acc ++ [d]) (n + j) w1 o1 (by omega) (by simp; omega)
    refine ⟨d :: ds, w2, ?_, by simp [l2], ?_, ?_⟩
    · intro y hy
      rcases List.mem_cons.mp hy with rfl | hy
      · exact p1
      · exact p2 y hy
    · simp only [List.length_cons, Int.natCast_add, Int.natCast_one, Int.mul_add, Int.mul_one]
      exact o2.cast (by omega)
    · have hlt : acc.length < LIM := by omega
      simp [lcLoop, stands, e1, hlt, e2]
theorem prs_of : ∀ {ds : List D}, (∀ d ∈ ds, ∃ p : Int × Int, d = pr p ∧ 0 ≤ p.2 ∧ p.2 < 4) → ∃ ps : List (Int × Int), ds = ps.map pr ∧ ∀ p ∈ ps, 0 ≤ p.2 ∧ p.2 < 4
  | [], _ => ⟨[], rfl, by simp⟩
  | d :: ds, h => by
    obtain ⟨p, rfl, h1⟩ := h d (by simp)
    obtain ⟨ps, rfl, h2⟩ := prs_of (ds := ds) fun d hd => h d (by simp [hd])
    refine ⟨p :: ps, rfl, fun q hq => ?_⟩
    rcases List.mem_cons.mp hq with rfl | hq
    · exact h1
    · exact h2 q hq
theorem under_prs (n : Nat) : ∀ ps : List (Int × Int), D.unders n (ps.map pr) = true
  | [] => rfl
  | p :: ps => by simp [D.unders, D.under, pr, under_prs n ps]
theorem rng_of {j : Int} (h1 : 0 ≤ j) (h2 : j < 1000) : rangeD 0 j = some ⟨(List.range j.toNat).map fun i => D.int (i : Nat), []⟩ := by
  unfold rangeD
  rw [if_pos (by omega)]
  simp
theorem LIM_big {n : Nat} (h : n ≤ 1000) : n ≤ LIM := Nat.le_trans h (by decide)
theorem entries (k : Nat) {g : Int} {r : Sto} (ρ : Env) (h0 : ρ[0]? = some (some (.loc 0))) (h1 : ρ[1]? = some (some (.int g))) (hg : g.natAbs < 2 ^ 100) (hr : Pure r) (m : Nat) (hm : m ≤ 10) {n : Int} {w : Int × Int × Int} (hw : Ok n w) (hn : n + 20 ≤ 1000000000) :
    ∃ (ps : List (Int × Int)) (w' : Int × Int × Int), (∀ p ∈ ps, 0 ≤ p.2 ∧ p.2 < (4 : Int)) ∧ ps.length = m ∧ Ok (n + 20) w' ∧
      lcLoop (lcF (.nm 5) [5] ρ (evC (run tbl 1000 (k+2)) .none) (evE (run tbl 1000 (k+2)) (.call "_law_entry" (.cons (.var 0) (.cons (.var 1) .nil))))) [] ((List.range m).map fun i => D.int (i : Nat)) [] (Wl w r) = .ok (.l (ps.map pr)) (Wl w' r) := by
  have hF : ∀ x n w, Ok n w → n + 2 ≤ 1000000000 → ∃ d w', (∃ p : Int × Int, d = pr p ∧ 0 ≤ p.2 ∧ p.2 < 4) ∧ Ok (n + 2) w' ∧
      lcF (.nm 5) [5] ρ (evC (run tbl 1000 (k+2)) .none) (evE (run tbl 1000 (k+2)) (.call "_law_entry" (.cons (.var 0) (.cons (.var 1) .nil)))) x (Wl w r) = .ok (some d) (Wl w' r) := fun x n w hw hn => by
    obtain ⟨p, w', p1, p2, o1, e1⟩ := entry k hw hn hg hr
    refine ⟨pr p, w', ⟨p, rfl, p1, p2⟩, o1, ?_⟩
    simp [lcF, bindT, wipeE, evC, evE, evEs, h0, h1, e1]
  obtain ⟨ds, w', hp, hl, ho, e⟩ := lc_dips (by decide) hF ((List.range m).map fun i => D.int (i : Nat)) [] n w hw (by simp; omega) (by simp; exact LIM_big (by omega))
  obtain ⟨ps, rfl, hp2⟩ := prs_of hp
  refine ⟨ps, w', hp2, by simpa using hl, ?_, by simpa using e⟩
  obtain ⟨a1, a2, a3, a4, a5, a6⟩ := ho
  simp only [List.length_map, List.length_range] at a5 a6
  exact ⟨a1, a2, a3, a4, by omega, by omega⟩
theorem under_pr (n : Nat) (p : Int × Int) : D.under n (pr p) = true := by simp [pr, D.under, D.unders]
/-! eq of pairs -/
theorem py_pr (p : Int × Int) : D.py (pr p) = some (.tuple [.int p.1, .int p.2]) := by simp [pr, D.py, D.pys]
theorem eq_pr (p q : Int × Int) (s : Sto) : eqT (.v (pr p)) (.v (pr q)) s = some (decide (p = q)) := by
  have e1 : pyOf (.v (pr p)) s = some (.tuple [.int p.1, .int p.2]) := py_pr p
  have e2 : pyOf (.v (pr q)) s = some (.tuple [.int q.1, .int q.2]) := py_pr q
  have s1 : ∀ a b : Int, PySem.SeqAt.shaped (.tuple [.int a, .int b]) = true := fun a b => by
    simp [PySem.SeqAt.shaped, PyData.canLay0, PyData.canLayAll0, PyData.depth, PyData.depthAll]
  have ev : PyData.eqv (.tuple [.int p.1, .int p.2]) (.tuple [.int q.1, .int q.2]) = decide (p = q) := by
    simp only [PyData.eqv, PyData.eqvAll, Bool.and_true]
    obtain ⟨a, b⟩ := p
    obtain ⟨c, d⟩ := q
    simp only [Prod.mk.injEq]
    by_cases h1 : a = c <;> by_cases h2 : b = d <;> simp [h1, h2]
  have : eqT (.v (pr p)) (.v (pr q)) s = (pyOf (.v (pr p)) s).bind fun d => (pyOf (.v (pr q)) s).bind fun e => if PySem.SeqAt.shaped d && PySem.SeqAt.shaped e then some (PyData.eqv d e) else none := rfl
  rw [this, e1, e2]
  simp only [Option.bind_some, s1, Bool.and_self, if_true, ev]
theorem pys_prs : ∀ ps : List (Int × Int), D.pys (ps.map pr) = some (ps.map fun p => .tuple [.int p.1, .int p.2])
  | [] => rfl
  | p :: ps => by simp [D.pys, py_pr, pys_prs ps]
theorem shaped_prs (ps : List (Int × Int)) : PySem.SeqAt.shaped (.tuple (ps.map fun p => .tuple [.int p.1, .int p.2])) = true := by
  have h1 : ∀ ps : List (Int × Int), PyData.canLayAll0 (ps.map fun p => .tuple [.int p.1, .int p.2]) = true := by
    intro ps
    induction ps with
    | nil => rfl
    | cons p ps ih => simp [PyData.canLay0, PyData.canLayAll0, ih]
  have h2 : ∀ ps : List (Int × Int), PyData.depthAll (ps.map fun p => .tuple [.int p.1, .int p.2]) ≤ 1 := by
    intro ps
    induction ps with
    | nil => simp [PyData.depthAll]
    | cons p ps ih => simp [PyData.depth, PyData.depthAll] at ih ⊢; omega
  have h3 := h2 ps
  simp [PySem.SeqAt.shaped, PyData.canLay0, h1, PyData.depth]
  omega
theorem ne_nil (ps : List (Int × Int)) (s : Sto) : eqT (.v (.tup (ps.map pr))) (.v (.tup [])) s = some (ps.isEmpty) := by
  have e1 : pyOf (.v (.tup (ps.map pr))) s = some (.tuple (ps.map fun p => .tuple [.int p.1, .int p.2])) := by simp [pyOf, D.py, pys_prs]
  have e2 : pyOf (.v (.tup [])) s = some (.tuple []) := rfl
  have : eqT (.v (.tup (ps.map pr))) (.v (.tup [])) s = (pyOf (.v (.tup (ps.map pr))) s).bind fun d => (pyOf (.v (.tup [])) s).bind fun e => if PySem.SeqAt.shaped d && PySem.SeqAt.shaped e then some (PyData.eqv d e) else none := rfl
  rw [this, e1, e2]
  have s2 : PySem.SeqAt.shaped (.tuple []) = true := by decide
  simp only [Option.bind_some, shaped_prs, s2, Bool.and_self, if_true]
  cases ps <;> simp [PyData.eqv, PyData.eqvAll]
theorem cut_to (ps : List (Int × Int)) (m : Nat) : cutD (ps.map pr) none (some (m : Int)) = (ps.take m).map pr := by
  unfold cutD
  rw [HT.sIx_none, HT.sIx_nat]
  simp only [List.drop_zero, Nat.sub_zero, List.length_map, List.map_take]
  by_cases h : m ≤ ps.length
  · rw [Nat.min_eq_left h]
  · rw [Nat.min_eq_right (by omega), List.take_of_length_le (by simp), List.take_of_length_le (by simp; omega)]
theorem rows (k : Nat) {n : Int} {w : Int × Int × Int} {g : Int} {r : Sto} (hw : Ok n w) (hn : n + 50 ≤ 1000000000) (hg : g.natAbs < 2 ^ 100) (hr : Pure r) :
    ∃ (row other : List (Int × Int)) (w' : Int × Int × Int), (∀ p ∈ row, 0 ≤ p.2 ∧ p.2 < (4 : Int)) ∧ (∀ p ∈ other, 0 ≤ p.2 ∧ p.2 < (4 : Int)) ∧ row.length ≤ 10 ∧ other.length ≤ 20 ∧ Ok (n + 50) w' ∧
      run tbl 1000 (k+3) "_law_rows" [.loc 0, .int g] (Wl w r) = .ok (.v (.tup [.tup (row.map pr), .tup (other.map pr)])) (Wl w' r) := by
  obtain ⟨d1, w1, a1, b1, o1, e1⟩ := dip (k+1) hw (by omega) (show (0 : Int) < 4 by decide) (by decide) hr
  obtain ⟨row, w2, p2, l2, o2, e2⟩ := entries k [some (.loc 0), some (.int g), none, none, none, none] rfl rfl hg hr (1 + d1).toNat (by omega) o1 (by omega)
  obtain ⟨d3, w3, a3, b3, o3, e3⟩ := dip (k+1) o2 (by omega) (show (0 : Int) < (row.length : Int) + 1 by omega) (by omega) hr
  obtain ⟨d4, w4, a4, b4, o4, e4⟩ := dip (k+1) o3 (by omega) (show (0 : Int) < 3 by decide) (by decide) hr
  obtain ⟨tail, w5, p5, l5, o5, e5⟩ := entries k [some (.loc 0), some (.int g), some (.tup (row.map pr)), some (.int d3), none, none] rfl rfl hg hr d4.toNat (by omega) o4 (by omega)
  have r1 := rng_of (show 0 ≤ 1 + d1 by omega) (by omega)
  have r4 := rng_of a4 (show d4 < 1000 by omega)
  obtain ⟨m3, rfl⟩ := Int.eq_ofNat_of_zero_le a3
  have hcat : ((row.take m3).map pr).length + (tail.map pr).length ≤ LIM := LIM_big (by simp; omega)
  simp only [List.length_map, List.length_take] at hcat
  have hL : (2 : Nat) ≤ LIM := by decide
  have hL0 : (0 : Nat) ≤ LIM := by decide
  have oo : Ok (n + 50) w5 := by
    obtain ⟨q1, q2, q3, q4, q5, q6⟩ := o5
    exact ⟨q1, q2, q3, q4, by omega, by omega⟩
  refine ⟨row, if (row.take m3 ++ tail).isEmpty then row else row.take m3 ++ tail, w5, p2, ?_, by omega, ?_, oo, ?_⟩
  · intro p hp
    split at hp
    · exact p2 p hp
    · rcases List.mem_append.mp hp with hp | hp
      · exact p2 p (List.mem_of_mem_take hp)
      · exact p5 p hp
  · split
    · omega
    · simp; omega
  · have e3' : run tbl 1000 (k + 1 + 1) "_law_dip" [.loc 0, .int ((row.length : Int) + 1)] (Wl w2 r) = .ok (.v (.int (m3 : Int))) (Wl w3 r) := e3
    rw [run, tbl__law_rows]
    simp only [f__law_rows]
    generalize E.call "_law_entry" (Es.cons (E.var 0) (Es.cons (E.var 1) Es.nil)) = ent at e2 e5 ⊢
    have hne := ne_nil (row.take m3 ++ tail) (Wl w5 r)
    rw [List.map_append, List.map_take] at hne
    have ht : ∀ xs : List (Int × Int), tidy (r.length + 1) (.v (.tup [.tup (row.map pr), .tup (xs.map pr)])) (Wl w5 r) = .ok (.v (.tup [.tup (row.map pr), .tup (xs.map pr)])) (Wl w5 r) := fun xs =>
      tidy_v hr rfl _ (by simp [D.under, D.unders, under_prs]) (by intro m h; cases h)
    have ht2 := ht (row.take m3 ++ tail)
    rw [List.map_append, List.map_take] at ht2
    have ht1 := ht row
    cases hc : (row.take m3 ++ tail).isEmpty <;> rw [hc] at hne
    all_goals
      simp [Fn.fill, evSs, evS, evE, evEs, evEo, evTs, evIt, rangeOf, e1, e2, e3', e4, e5, r1, r4, binT, biT, seqOf, lstOf, Fl.then, Fl.res, Wl_len, bindT, slcT, cut_to, hcat, hL, hL0, cmpT, truth, hne, ht1, ht2]
theorem lc_flt {F : D → Sto → R (Option D)} {r : Sto} (hF : ∀ (i : Int) n w, 0 ≤ i → i < 4 → Ok n w → n + 1 ≤ 1000000000 → ∃ (b : Bool) (w' : Int × Int × Int), Ok (n + 1) w' ∧ F (.int i) (Wl w r) = .ok (if b then some (.int i) else none) (Wl w' r)) :
    ∀ (xs : List Int) (acc : List D) (n : Int) (w : Int × Int × Int), (∀ i ∈ xs, 0 ≤ i ∧ i < 4) → Ok n w → n + xs.length ≤ 1000000000 → acc.length + xs.length ≤ LIM →
      ∃ (js : List Int) (w' : Int × Int × Int), (∀ i ∈ js, 0 ≤ i ∧ i < 4) ∧ js.length ≤ xs.length ∧ Ok (n + xs.length) w' ∧ lcLoop F [] (xs.map .int) acc (Wl w r) = .ok (.l (acc ++ js.map .int)) (Wl w' r)
  | [], acc, n, w, _, h, hn, hl => ⟨[], w, by simp, Nat.le_refl _, by simpa using h, by simp [lcLoop, stands]⟩
  | x :: xs, acc, n, w, hx, h, hn, hl => by
    simp only [List.length_cons, Int.natCast_add, Int.natCast_one] at hn hl
    obtain ⟨b, w1, o1, e1⟩ := hF x n w (hx x (by simp)).1 (hx x (by simp)).2 h (by omega)
    cases b with
    | false =>
      obtain ⟨js, w2, p2, l2, o2, e2⟩ := lc_flt hF xs acc (n + 1) w1 (fun i hi => hx i (by simp [hi])) o1 (by omega) (by omega)
      refine ⟨js, w2, p2, by simp; omega, o2.cast (by simp; omega), ?_⟩
      simp [lcLoop, stands, e1, e2]
    | true =>
      obtain ⟨js, w2, p2, l2, o2, e2⟩ := lc_flt hF xs (acc ++ [.int x]) (n + 1) w1 (fun i hi => hx i (by simp [hi])) o1 (by omega) (by simp; omega)
      refine ⟨x :: js, w2, ?_, by simp; omega, o2.cast (by simp; omega), ?_⟩
      · intro y hy
        rcases List.mem_cons.mp hy with rfl | hy
        · exact hx y (by simp)
        · exact p2 y hy
      · have hlt : acc.length < LIM := by omega
        simp [lcLoop, stands, e1, hlt, e2]
theorem under_ks (n : Nat) : ∀ js : List Int, D.unders n (js.map .int) = true
  | [] => rfl
  | p :: ps => by simp [D.unders, D.under, under_ks n ps]
theorem some_of (k : Nat) {n : Int} {w : Int × Int × Int} {r : Sto} (hw : Ok n w) (hn : n + 4 ≤ 1000000000) (hr : Pure r) :
    ∃ (js : List Int) (w' : Int × Int × Int), (∀ i ∈ js, 0 ≤ i ∧ i < 4) ∧ js.length ≤ 4 ∧ Ok (n + 4) w' ∧ run tbl 1000 (k+2) "_law_some" [.loc 0] (Wl w r) = .ok (.v (.tup (js.map .int))) (Wl w' r) := by
  have hF : ∀ (i : Int) n w, 0 ≤ i → i < 4 → Ok n w → n + 1 ≤ 1000000000 → ∃ (b : Bool) (w' : Int × Int × Int), Ok (n + 1) w' ∧
      lcF (.nm 1) [1] [some (.loc 0), none] (evC (run tbl 1000 (k+1)) (.some (.cmp .eq (.call "_law_dip" (.cons (.var 0) (.cons (.int 3) .nil))) (.int 0)))) (evE (run tbl 1000 (k+1)) (.var 1)) (.int i) (Wl w r) = .ok (if b then some (.int i) else none) (Wl w' r) := fun i n w _ _ hw hn => by
    obtain ⟨d, w1, _, _, o1, e1⟩ := dip k hw hn (show (0 : Int) < 3 by decide) (by decide) hr
    refine ⟨decide (d = 0), w1, o1, ?_⟩
    by_cases hd : d = 0 <;> simp [lcF, bindT, wipeE, evC, evE, evEs, e1, cmpT, eqT, truth, hd]
  obtain ⟨js, w', p, l, o, e⟩ := lc_flt hF [0, 1, 2, 3] [] n w (by simp) hw (by simpa using hn) (LIM_big (by simp))
  refine ⟨js, w', p, by simpa using l, o.cast (by simp), ?_⟩
  rw [run, tbl__law_some]
  simp only [f__law_some]
  have r4 : rangeD 0 4 = some ⟨[.int 0, .int 1, .int 2, .int 3], []⟩ := by
    rw [rng_of (by decide) (by decide)]
    rfl
  simp only [List.map_cons, List.map_nil] at e
  generalize E.cmp Cop.eq (E.call "_law_dip" (Es.cons (E.var 0) (Es.cons (E.int 3) Es.nil))) (E.int 0) = ent at e ⊢
  simp only [evC, evE] at e
  simp [Fn.fill, evSs, evS, evE, evEs, evEo, evTs, evC, evIt, rangeOf, r4, e, biT, seqOf, lstOf, Fl.then, Fl.res, Wl_len, tidy_v hr rfl, D.under, D.unders, under_ks]
end K21
end
section
set_option maxRecDepth 100000
set_option maxHeartbeats 1000000
set_option linter.unusedSimpArgs false
namespace K21
open Fy
open PySem (PyData)
/-! ### what both answers say -/
def rd (dn ab : List Int) : List ((Int × Int) × (Int × Int)) → Bool
  | [] => false
  | (p, q) :: t => if q.1 < p.1 then true else if p.2 ∈ dn then false else if p = q then (if p.2 ∈ ab then true else rd dn ab t) else decide (q.1 < p.1 ∨ (q.1 = p.1 ∧ q.2 < p.2))
theorem flat_ks : ∀ js : List Int, (js.map D.int).all flat = true
  | [] => rfl
  | j :: js => by simp [flat, flat_ks js]
theorem in_ks (x : Int) (js : List Int) (s : Sto) : inT (.v (.int x)) (.v (.tup (js.map .int))) s = some (decide (x ∈ js)) := by
  have h : ∀ js : List Int, (js.map D.int).any (fun z => eqF z (.int x)) = decide (x ∈ js) := by
    intro js
    induction js with
    | nil => simp
    | cons j js ih =>
      rw [List.map_cons, List.any_cons, ih]
      have e : eqF (.int j) (.int x) = (j == x) := rfl
      rw [e]
      by_cases h1 : j = x
      · subst h1; simp
      · have h2 : ¬ x = j := fun h => h1 h.symm
        simp [h1, h2]
  simp only [inT, seqOf, Option.bind_some, flat_ks, flat, Bool.and_self, if_true, h]
theorem ord_pr (op : Nat) (a b c d : Int) : ordT op (.v (.tup [.int a, .int b])) (.v (.tup [.int c, .int d])) = some (if a = c then (if b = d then ordI op 0 0 else ordI op b d) else ordI op a c) := by
  simp only [ordT, intsD, Option.map_some, Option.bind_some, ordL]
theorem rd_loop (k : Nat) (F : D → Env → Sto → Fl) (hF : F = forF (.tp (.cons (.tp (.cons (.nm 4) (.cons (.nm 5) .nil))) (.cons (.tp (.cons (.nm 6) (.cons (.nm 7) .nil))) .nil))) (evSs (run tbl 1000 k) 1000
        (.cons (.ite (.cmp .lt (.var 6) (.var 4)) (.cons (.ret (.bl true)) .nil) .nil)
    (.cons (.ite (.or2 (.cmp .inn (.var 5) (.var 2)) (.cmp .gt (.tup (.cons (.var 6) (.cons (.var 7) .nil))) (.tup (.cons (.var 4) (.cons (.var 5) .nil))))) (.cons (.ret (.bl false)) .nil) .nil)
    (.cons (.ite (.or2 (.cmp .lt (.tup (.cons (.var 6) (.cons (.var 7) .nil))) (.tup (.cons (.var 4) (.cons (.var 5) .nil)))) (.cmp .inn (.var 5) (.var 3))) (.cons (.ret (.bl true)) .nil) .nil)
    .nil))))) (s : Sto) (R O : D) (dn ab : List Int) (g : Env → Sto → Fl) (hg : ∀ ρ s, g ρ s = .rt (.v (.bl false)) s) :
    ∀ (zs : List ((Int × Int) × (Int × Int))) (x4 x5 x6 x7 : Option D),
      (forLoop F
        [] (zs.map fun z => .tup [pr z.1, pr z.2]) [some R, some O, some (.tup (dn.map .int)), some (.tup (ab.map .int)), x4, x5, x6, x7] s).then g = .rt (.v (.bl (rd dn ab zs))) s
  | [], x4, x5, x6, x7 => by simp [forLoop, stands, Fl.then, hg, rd]
  | ((a, i), (b, j)) :: zs, x4, x5, x6, x7 => by
    have ih := rd_loop k F hF s R O dn ab g hg zs (some (.int a)) (some (.int i)) (some (.int b)) (some (.int j))
    have hL : (2 : Nat) ≤ LIM := by decide
    simp only [List.map_cons, forLoop, stands, List.all_nil, if_true]
    rw [show ∀ x ρ s, F x ρ s = _ from fun x ρ s => by rw [hF, forF_ap]]
    clear hF
    simp only [bindT, bindTs, pr, Tgs.len, List.length_cons, List.length_nil, if_true, List.set_cons_succ, List.set_cons_zero, Option.bind_some]
    by_cases h1 : b < a
    · simp [evSs, evS, evE, evEs, cmpT, ordT, ordI, truth, Fl.then, Fl.turn, h1, rd]
    · by_cases h2 : i ∈ dn
      · simp [evSs, evS, evE, evEs, cmpT, ordT, ordI, truth, Fl.then, Fl.turn, h1, h2, rd, in_ks]
      · by_cases h3 : a = b
        · subst h3
          by_cases h4 : i = j
          · subst h4
            by_cases h5 : i ∈ ab
            · simp [evSs, evS, evE, evEs, cmpT, ordT, ordI, truth, Fl.then, Fl.turn, h1, h2, rd, in_ks, hL, intsD, ordL, h5]
            · simp [evSs, evS, evE, evEs, cmpT, ordT, ordI, truth, Fl.then, Fl.turn, h1, h2, rd, in_ks, hL, intsD, ordL, h5]
              exact ih
          · have h4' : ¬ j = i := fun h => h4 h.symm
            by_cases h5 : j < i
            · have h6 : ¬ i < j := by omega
              simp [evSs, evS, evE, evEs, cmpT, ordT, ordI, truth, Fl.then, Fl.turn, h1, h2, rd, in_ks, hL, intsD, ordL, h4, h4', h5, h6]
            · have h6 : i < j := by omega
              simp [evSs, evS, evE, evEs, cmpT, ordT, ordI, truth, Fl.then, Fl.turn, h1, h2, rd, in_ks, hL, intsD, ordL, h4, h4', h5, h6]
        · have h3' : ¬ b = a := fun h => h3 h.symm
          have h6 : a < b := by omega
          simp [evSs, evS, evE, evEs, cmpT, ordT, ordI, truth, Fl.then, Fl.turn, h1, h2, rd, in_ks, hL, intsD, ordL, h3, h3', h6]
theorem lrd_loop (k : Nat) (F : D → Env → Sto → Fl) (hF : F = forF (.nm 4) (evSs (run tbl 1000 k) 1000
        (.cons (.par2 5 6 (.idx (.var 0) (.var 4)) (.idx (.var 1) (.var 4)))
    (.cons (.ite (.cmp .lt (.idx (.var 6) (.int 0)) (.idx (.var 5) (.int 0))) (.cons (.ret (.bl true)) .nil) .nil)
    (.cons (.ite (.cmp .inn (.idx (.var 5) (.int 1)) (.var 2)) (.cons (.ret (.bl false)) .nil) .nil)
    (.cons (.ite (.cmp .ne (.var 6) (.var 5)) (.cons (.ret (.cmp .lt (.var 6) (.var 5))) .nil) .nil)
    (.cons (.ite (.cmp .inn (.idx (.var 5) (.int 1)) (.var 3)) (.cons (.ret (.bl true)) .nil) .nil)
    .nil))))))) (s : Sto) (row other : List (Int × Int)) (dn ab : List Int) (g : Env → Sto → Fl) (hg : ∀ ρ s, g ρ s = .rt (.v (.bl false)) s) :
    ∀ (ks : List Nat) (_ : ∀ i ∈ ks, i < row.length ∧ i < other.length) (x4 x5 x6 : Option D),
      (forLoop F
        [] (ks.map fun i => .int (i : Nat)) [some (.tup (row.map pr)), some (.tup (other.map pr)), some (.tup (dn.map .int)), some (.tup (ab.map .int)), x4, x5, x6] s).then g = .rt (.v (.bl (rd dn ab (ks.map fun i => (row.getD i (0, 0), other.getD i (0, 0)))))) s
  | [], _, x4, x5, x6 => by simp [forLoop, stands, Fl.then, hg, rd]
  | u :: ks, hu, x4, x5, x6 => by
    obtain ⟨u1, u2⟩ := hu u (by simp)
    have ih := lrd_loop k F hF s row other dn ab g hg ks (fun i hi => hu i (by simp [hi])) (some (.int (u : Nat))) (some (pr (row.getD u (0, 0)))) (some (pr (other.getD u (0, 0))))
    have at1 : L2.atI (row.map pr) ((u : Nat) : Int) = some (pr (row.getD u (0, 0))) := L2.atI_nat (by simp [u1])
    have at2 : L2.atI (other.map pr) ((u : Nat) : Int) = some (pr (other.getD u (0, 0))) := L2.atI_nat (by simp [u2])
    simp only [List.map_cons]
    generalize hp : row.getD u (0, 0) = p at at1 ih
    generalize hq : other.getD u (0, 0) = q at at2 ih
    have hpq : eqT (.v (pr q)) (.v (pr p)) s = some (decide (q = p)) := eq_pr q p s
    simp only [forLoop, stands, List.all_nil, if_true]
    rw [show ∀ x ρ s, F x ρ s = _ from fun x ρ s => by rw [hF, forF_ap]]
    clear hF
    simp only [bindT, List.set_cons_succ, List.set_cons_zero]
    obtain ⟨a, i⟩ := p
    obtain ⟨b, j⟩ := q
    simp only [pr] at hpq at1 at2 ih
    have b1 : L2.atI [D.int a, D.int i] 0 = some (.int a) := rfl
    have b2 : L2.atI [D.int a, D.int i] 1 = some (.int i) := rfl
    have b3 : L2.atI [D.int b, D.int j] 0 = some (.int b) := rfl
    by_cases h1 : b < a
    · simp [evSs, evS, evE, evEs, cmpT, ordT, ordI, idxT, seqOf, truth, Fl.then, Fl.turn, at1, at2, b1, b2, b3, h1, rd]
    · by_cases h2 : i ∈ dn
      · simp [evSs, evS, evE, evEs, cmpT, ordT, ordI, idxT, seqOf, truth, Fl.then, Fl.turn, at1, at2, b1, b2, b3, h1, h2, rd, in_ks]
      · by_cases h3 : a = b ∧ i = j
        · obtain ⟨h3, h4⟩ := h3
          subst h3 h4
          by_cases h5 : i ∈ ab
          · simp [evSs, evS, evE, evEs, cmpT, ordT, ordI, idxT, seqOf, truth, Fl.then, Fl.turn, at1, at2, b1, b2, b3, hpq, h1, h2, rd, in_ks, intsD, ordL, h5]
          · simp [evSs, evS, evE, evEs, cmpT, ordT, ordI, idxT, seqOf, truth, Fl.then, Fl.turn, at1, at2, b1, b2, b3, hpq, h1, h2, rd, in_ks, intsD, ordL, h5]
            exact ih
        · have h3' : ¬ (b = a ∧ j = i) := fun h => h3 ⟨h.1.symm, h.2.symm⟩
          simp [evSs, evS, evE, evEs, cmpT, ordT, ordI, idxT, seqOf, truth, Fl.then, Fl.turn, at1, at2, b1, b2, b3, hpq, h1, h2, rd, in_ks, intsD, ordL, h3, h3']
          by_cases h4 : b = a
          · subst h4
            have h5 : ¬ j = i := fun h => h3' ⟨rfl, h⟩
            simp [h5]
          · simp [h4]
theorem zip_map (row other : List (Int × Int)) : ((row.map pr).zip (other.map pr)).map (fun p => D.tup [p.1, p.2]) = (row.zip other).map fun z => .tup [pr z.1, pr z.2] := by
  rw [List.zip_map, List.map_map]
  rfl
theorem zip_get : ∀ row other : List (Int × Int), (List.range (min row.length other.length)).map (fun i => (row.getD i (0, 0), other.getD i (0, 0))) = row.zip other
  | [], other => by simp
  | p :: row, [] => by simp
  | p :: row, q :: other => by
    have ih := zip_get row other
    simp only [List.length_cons, Nat.add_min_add_right, List.range_succ_eq_map, List.map_cons, List.map_map, List.zip_cons_cons]
    rw [← ih]
    rfl
theorem for_then {cf : CallF} {wf : Nat} {t : Tg} {it : It} {b rest : Ss} {ρ : Env} {s s' : Sto} {I : Items} (hI : evIt cf it ρ s = .ok I s') :
    evSs cf wf (.cons (.for_ t it b) rest) ρ s = (forLoop (forF t (evSs cf wf b)) I.src I.xs ρ s').then fun ρ s => evSs cf wf rest ρ s := by
  simp only [evSs, evS, hI, R.fl_ok]
theorem bl_out {n : Nat} {w : Int × Int × Int} {r : Sto} (hr : Pure r) (hn : n = r.length + 1) (b : Bool) : tidy n (.v (.bl b)) (Wl w r) = .ok (.v (.bl b)) (Wl w r) :=
  tidy_v hr hn _ (by simp [D.under]) (by intro m h; cases h)
theorem reads (k : Nat) {w : Int × Int × Int} {r : Sto} (hr : Pure r) (row other : List (Int × Int)) (dn ab : List Int) :
    run tbl 1000 (k+1) "reads" [.tup (row.map pr), .tup (other.map pr), .tup (dn.map .int), .tup (ab.map .int)] (Wl w r) = .ok (.v (.bl (rd dn ab (row.zip other)))) (Wl w r) := by
  have h := rd_loop k _ rfl (Wl w r) (.tup (row.map pr)) (.tup (other.map pr)) dn ab (fun ρ s => evSs (run tbl 1000 k) 1000 (.cons (.ret (.bl false)) .nil) ρ s) (fun _ _ => by simp [evSs, evS, evE, Fl.then]) (row.zip other) none none none none
  rw [← zip_map] at h
  rw [run, tbl_reads]
  simp only [f_reads]
  simp [Fn.fill]
  rw [for_then (I := ⟨((row.map pr).zip (other.map pr)).map (fun p => D.tup [p.1, p.2]), []⟩) (s' := Wl w r) (by simp [evIt, evE, zipOf])]
  dsimp only
  rw [h]
  simp only [Fl.res]
  exact bl_out hr rfl _
end K21
end
section
set_option maxRecDepth 100000
set_option maxHeartbeats 1000000
set_option linter.unusedSimpArgs false
namespace K21
open Fy
open PySem (PyData)
theorem min_len (a b : Nat) : (if (b : Int) < a then (b : Int) else a) = ((min a b : Nat) : Int) := by split <;> omega
theorem rng_nat (m : Nat) (h : m < 1000) : rangeOf [.int (m : Int)] = some ⟨(List.range m).map fun i => D.int (i : Nat), []⟩ := by
  have := rng_of (j := (m : Int)) (by omega) (by omega)
  rwa [Int.toNat_natCast] at this
theorem min_it (k : Nat) {s : Sto} (row other : List (Int × Int)) (hl : row.length ≤ 100) (x2 x3 x4 x5 x6 : Option D) :
    evIt (run tbl 1000 k) (.rng (.cons (.bi .min (.cons (.bi .len (.cons (.var 0) .nil)) (.cons (.bi .len (.cons (.var 1) .nil)) .nil))) .nil)) [some (.tup (row.map pr)), some (.tup (other.map pr)), x2, x3, x4, x5, x6] s = .ok ⟨(List.range (min row.length other.length)).map fun i => D.int (i : Nat), []⟩ s := by
  have e := rng_nat (min row.length other.length) (by omega)
  rw [← min_len] at e
  simp only [evIt, evE, evEs, evTs, List.getElem?_cons_zero, List.getElem?_cons_succ, R.bind_ok, biT, seqOf, List.length_map, Option.map_some, ofO_some, keepR_v, e]
theorem rng_in (a b : Nat) (i : Nat) (hi : i ∈ List.range (min a b)) : i < a ∧ i < b := by
  have := List.mem_range.mp hi
  omega
theorem law_reads (k : Nat) {w : Int × Int × Int} {r : Sto} (hr : Pure r) (row other : List (Int × Int)) (hl : row.length ≤ 100) (dn ab : List Int) :
    run tbl 1000 (k+1) "_law_reads" [.tup (row.map pr), .tup (other.map pr), .tup (dn.map .int), .tup (ab.map .int)] (Wl w r) = .ok (.v (.bl (rd dn ab (row.zip other)))) (Wl w r) := by
  have h := lrd_loop k _ rfl (Wl w r) row other dn ab (fun ρ s => evSs (run tbl 1000 k) 1000 (.cons (.ret (.bl false)) .nil) ρ s) (fun _ _ => by simp [evSs, evS, evE, Fl.then]) (List.range (min row.length other.length)) (rng_in _ _) none none none
  rw [zip_get] at h
  rw [run, tbl__law_reads]
  simp only [f__law_reads]
  simp [Fn.fill]
  have hI := min_it k (s := Wl w r) row other hl (some (.tup (dn.map .int))) (some (.tup (ab.map .int))) none none none
  rw [for_then hI]
  dsimp only
  rw [h]
  simp only [Fl.res]
  exact bl_out hr rfl _
/-! ### names that keep the order -/
def ren (f : Int → Int) (p : Int × Int) : Int × Int := (p.1 + 10 ^ 30, f p.2)
def Mono (f : Int → Int) : Prop := ∀ a b, 0 ≤ a → b < 4 → a < b → f a < f b
theorem Mono.inj {f : Int → Int} (h : Mono f) {a b : Int} (a1 : 0 ≤ a) (a2 : a < 4) (b1 : 0 ≤ b) (b2 : b < 4) : f a = f b ↔ a = b := by
  constructor
  · intro e
    rcases Int.lt_trichotomy a b with h1 | h1 | h1
    · have := h a b a1 b2 h1; omega
    · exact h1
    · have := h b a b1 a2 h1; omega
  · rintro rfl; rfl
theorem Mono.mem {f : Int → Int} (h : Mono f) {a : Int} (a1 : 0 ≤ a) (a2 : a < 4) (js : List Int) (hj : ∀ i ∈ js, 0 ≤ i ∧ i < 4) : f a ∈ js.map f ↔ a ∈ js := by
  constructor
  · intro e
    obtain ⟨b, hb, e⟩ := List.mem_map.mp e
    have := hj b hb
    rw [← (h.inj this.1 this.2 a1 a2).mp e]
    exact hb
  · exact fun e => List.mem_map.mpr ⟨a, e, rfl⟩
theorem rd_ren {f : Int → Int} (h : Mono f) (dn ab : List Int) (hd : ∀ i ∈ dn, 0 ≤ i ∧ i < 4) (ha : ∀ i ∈ ab, 0 ≤ i ∧ i < 4) :
    ∀ (row other : List (Int × Int)), (∀ p ∈ row, 0 ≤ p.2 ∧ p.2 < 4) → (∀ p ∈ other, 0 ≤ p.2 ∧ p.2 < 4) →
      rd (dn.map f) (ab.map f) ((row.map (ren f)).zip (other.map (ren f))) = rd dn ab (row.zip other)
  | [], other, _, _ => by simp [rd]
  | p :: row, [], _, _ => by simp [rd]
  | (a, i) :: row, (b, j) :: other, hr, ho => by
    have ih := rd_ren h dn ab hd ha row other (fun p hp => hr p (by simp [hp])) (fun p hp => ho p (by simp [hp]))
    obtain ⟨i1, i2⟩ := hr (a, i) (by simp)
    obtain ⟨j1, j2⟩ := ho (b, j) (by simp)
    simp only at i1 i2 j1 j2
    have m1 := h.mem i1 i2 dn hd
    have m2 := h.mem i1 i2 ab ha
    have m3 := h.inj i1 i2 j1 j2
    have m4 : f j < f i ↔ j < i := by
      rcases Int.lt_trichotomy j i with h1 | h1 | h1
      · exact ⟨fun _ => h1, fun _ => h j i j1 i2 h1⟩
      · subst h1; simp
      · have := h i j i1 j2 h1
        omega
    have m5 : ∀ x y : Int, x + 10 ^ 30 < y + 10 ^ 30 ↔ x < y := by intro x y; omega
    have m6 : ∀ x y : Int, x + 10 ^ 30 = y + 10 ^ 30 ↔ x = y := by intro x y; omega
    simp only [List.map_cons, List.zip_cons_cons, rd, ren, m1, m2, m3, m4, m5, m6, Prod.mk.injEq, ih]
end K21
end
section
set_option maxRecDepth 100000
set_option maxHeartbeats 1000000
set_option linter.unusedSimpArgs false
namespace K21
open Fy
open PySem (PyData)
theorem lc_pure {α : Type} {F : D → Sto → R (Option D)} {A G : α → D} {s : Sto} : ∀ (ys : List α) (acc : List D), (∀ y ∈ ys, F (A y) s = .ok (some (G y)) s) → acc.length + ys.length ≤ LIM → lcLoop F [] (ys.map A) acc s = .ok (.l (acc ++ ys.map G)) s
  | [], acc, _, _ => by simp [lcLoop, stands]
  | y :: ys, acc, h, hl => by
    simp only [List.length_cons] at hl
    have e1 := h y (by simp)
    have hlt : acc.length < LIM := by omega
    have e2 := lc_pure ys (acc ++ [G y]) (fun z hz => h z (by simp [hz])) (by simp; omega)
    simp [lcLoop, stands, e1, hlt, e2]
def nm4 (a b c d : Int) (i : Int) : Int := if i = 0 then a else if i = 1 then b else if i = 2 then c else d
theorem at_nm4 (a b c d : Int) {i : Int} (h0 : 0 ≤ i) (h4 : i < 4) : L2.atI [D.int a, D.int b, D.int c, D.int d] i = some (.int (nm4 a b c d i)) := by
  have : i = 0 ∨ i = 1 ∨ i = 2 ∨ i = 3 := by omega
  rcases this with rfl | rfl | rfl | rfl <;> rfl
theorem named (k : Nat) {w : Int × Int × Int} {r : Sto} (hr : Pure r) (row : List (Int × Int)) (hp : ∀ p ∈ row, 0 ≤ p.2 ∧ p.2 < 4) (hl : row.length ≤ 100) (a b c d : Int) :
    run tbl 1000 (k+1) "_law_named" [.tup (row.map pr), .tup [.int a, .int b, .int c, .int d]] (Wl w r) = .ok (.v (.tup ((row.map (ren (nm4 a b c d))).map pr))) (Wl w r) := by
  have hL : (2 : Nat) ≤ LIM := by decide
  have h := lc_pure (F := lcF (.tp (.cons (.nm 2) (.cons (.nm 3) .nil))) [2, 3] [some (.tup (row.map pr)), some (.tup [.int a, .int b, .int c, .int d]), none, none] (evC (run tbl 1000 k) .none) (evE (run tbl 1000 k) (.tup (.cons (.bin .add (.var 2) (.bin .pow (.int 10) (.int 30))) (.cons (.idx (.var 1) (.var 3)) .nil))))) (A := pr) (G := fun p => pr (ren (nm4 a b c d) p)) (s := Wl w r) row [] (fun p hq => by
    obtain ⟨q1, q2⟩ := hp p hq
    have e := at_nm4 a b c d q1 q2
    simp [lcF, pr, bindT, bindTs, Tgs.len, wipeE, evC, evE, evEs, binT, idxT, seqOf, e, hL, ren]) (by simp; exact LIM_big (by omega))
  rw [run, tbl__law_named]
  simp only [f__law_named]
  generalize E.tup (.cons (.bin .add (.var 2) (.bin .pow (.int 10) (.int 30))) (.cons (.idx (.var 1) (.var 3)) .nil)) = ent at h ⊢
  have ht := tidy_v (w := w) hr rfl (.tup ((row.map (ren (nm4 a b c d))).map pr)) (by simp only [D.under, under_prs]) (by intro m h; cases h)
  rw [List.map_map] at ht ⊢
  simp [Fn.fill, evSs, evS, evE, evEs, evTs, evIt, itemsOf, h, biT, seqOf, lstOf, Fl.then, Fl.res, Wl_len]
  exact ht
theorem like (k : Nat) {w : Int × Int × Int} {r : Sto} (hr : Pure r) (a b : Bool) : run tbl 1000 (k+1) "_law_like" [.bl a, .bl b] (Wl w r) = .ok (.v (.bl (a == b))) (Wl w r) := by
  have ht := fun c => bl_out (w := w) hr rfl c
  rw [run, tbl__law_like]
  simp only [f__law_like]
  generalize E.lc _ _ _ _ _ = ent
  simp [Fn.fill, evSs, evS, evE, evEs, evTs, biT, tyOf, kinds, isSub, truth, cmpT, isT, eqT, Fl.then, Fl.res, Wl_len, ht]
theorem under_is (n : Nat) (a b c : Int) : D.unders n [.int a, .int b, .int c] = true := by simp [D.unders, D.under]
theorem well (k : Nat) (ns : List Int) (hn : ns.length ≤ 63) : ∃ w, Ok 0 w ∧ run tbl 1000 (k+1) "_law_well" [.fro (ns.map .int), .int 0] [] = .ok (.l [.int w.1, .int w.2.1, .int w.2.2]) [] := by
  have fin : ∀ (c : Int), 0 ≤ c → c < 2 ^ 200 → Ok 0 ((if 10 ^ 18 ≤ c then c else 0), (c % 2147483563 * 45007) % 2147483563 + 1, 0) := by
    intro c h0 h1
    refine ⟨?_, ?_, ?_, by simp, by simp, by decide⟩
    · simp only; split <;> omega
    · simp only
      have := Int.emod_nonneg (c % 2147483563 * 45007) (show (2147483563 : Int) ≠ 0 by decide)
      omega
    · simp only
      have := Int.emod_lt_of_pos (c % 2147483563 * 45007) (show (0 : Int) < 2147483563 by decide)
      omega
  have hL : (2 : Nat) ≤ LIM := by decide
  have hL3 : (3 : Nat) ≤ LIM := by decide
  have m0 : mulOk 5501 0 = true := by decide
  have m1 : mulOk 42013 0 = true := by decide
  have m2 : ∀ c : Int, mulOk (c % 2147483563) 45007 = true := fun c => by
    have a := Int.emod_nonneg c (show (2147483563 : Int) ≠ 0 by decide)
    have b := Int.emod_lt_of_pos c (show (0 : Int) < 2147483563 by decide)
    exact mulOk_of (by omega) (by decide)
  have a0 : ∀ c : Int, L2.atI [D.int 0, D.int c] 0 = some (.int 0) := fun c => rfl
  have a1 : ∀ c : Int, L2.atI [D.int 0, D.int c] 1 = some (.int c) := fun c => rfl
  cases ns with
  | nil =>
    refine ⟨_, fin 733 (by decide) (by decide), ?_⟩
    have m3 : mulOk 733 45007 = true := by decide
    rw [run, tbl__law_well]
    simp [f__law_well, Fn.fill, evSs, evS, evE, evEs, evTs, biT, lstOf, seqOf, truth, cmpT, ordT, ordI, binT, bindT, idxT, a0, a1, Fl.then, Fl.res, tidy, under_is, m0, m1, m2, m3, hL, hL3]
  | cons x xs =>
    have b0 : L2.atI (D.int x :: xs.map .int) 0 = some (.int x) := L2.atI_nat (j := 0) rfl
    have c0 : 0 ≤ (if x < 0 then -x else x) % 10 ^ 60 := Int.emod_nonneg _ (by decide)
    have c1 : (if x < 0 then -x else x) % 10 ^ 60 < 10 ^ 60 := Int.emod_lt_of_pos _ (by decide)
    generalize hc : (if x < 0 then -x else x) % 10 ^ 60 = c at c0 c1
    refine ⟨_, fin c c0 (by omega), ?_⟩
    rw [run, tbl__law_well]
    have hpos : (0 : Int) < (xs.length : Int) + 1 := by omega
    simp only [Int.reducePow] at hc
    by_cases h18 : 10 ^ 18 ≤ c
    · simp only [Int.reducePow] at h18
      simp [f__law_well, Fn.fill, evSs, evS, evE, evEs, evTs, biT, lstOf, seqOf, truth, cmpT, ordT, ordI, binT, bindT, idxT, a0, a1, b0, Fl.then, Fl.res, tidy, under_is, m0, m1, m2, hL, hL3, hpos, hc, h18]
    · simp only [Int.reducePow] at h18
      simp [f__law_well, Fn.fill, evSs, evS, evE, evEs, evTs, biT, lstOf, seqOf, truth, cmpT, ordT, ordI, binT, bindT, idxT, a0, a1, b0, Fl.then, Fl.res, tidy, under_is, m0, m1, m2, hL, hL3, hpos, hc, h18]
end K21
end
section
set_option maxRecDepth 100000
set_option maxHeartbeats 4000000
set_option linter.unusedSimpArgs false
namespace K21
open Fy
open PySem (PyData)
theorem seq_nx {cf : CallF} {wf : Nat} {st : S} {r : Ss} {ρ ρ' : Env} {s s' : Sto} (h : evS cf wf st ρ s = .nx ρ' s') : evSs cf wf (.cons st r) ρ s = evSs cf wf r ρ' s' := by
  simp only [evSs, h, Fl.then]
theorem pick {d : Int} (h0 : 0 ≤ d) (h3 : d < 3) : ∃ g : Int, g.natAbs < 2 ^ 100 ∧ L2.atI [D.int 1, D.int 1, D.int 100000000000000000000] d = some (.int g) := by
  have : d = 0 ∨ d = 1 ∨ d = 2 := by omega
  rcases this with rfl | rfl | rfl
  · exact ⟨1, by decide, rfl⟩
  · exact ⟨1, by decide, rfl⟩
  · exact ⟨100000000000000000000, by decide, rfl⟩
theorem mono4 {a b c d : Int} (h1 : a < b) (h2 : b < c) (h3 : c < d) : Mono (nm4 a b c d) := by
  intro x y hx hy hxy
  have hx : x = 0 ∨ x = 1 ∨ x = 2 := by omega
  have hy : y = 1 ∨ y = 2 ∨ y = 3 := by omega
  rcases hx with rfl | rfl | rfl <;> rcases hy with rfl | rfl | rfl <;> first | omega | (simp [nm4]; omega) | (simp [nm4])
theorem lot (k : Nat) (ρ : Env) (js : List Int) (hj : ∀ i ∈ js, 0 ≤ i ∧ i < 4) (hl : js.length ≤ 4) (a b c d : Int) (s : Sto) (h9 : ρ[9]? = some (some (.tup [.int a, .int b, .int c, .int d]))) (h12 : 12 < ρ.length) :
    lcLoop (lcF (.nm 12) [12] ρ (evC (run tbl 1000 k) .none) (evE (run tbl 1000 k) (.idx (.var 9) (.var 12)))) [] (js.map .int) [] s = .ok (.l ((js.map (nm4 a b c d)).map .int)) s := by
  rw [List.map_map]
  refine lc_pure js [] (fun i hi => ?_) (by simp; exact LIM_big (by omega))
  have e := at_nm4 a b c d (hj i hi).1 (hj i hi).2
  simp [lcF, bindT, wipeE, evC, evE, idxT, seqOf, h9, h12, e]
theorem turn (k : Nat) {n : Int} {w : Int × Int × Int} {r : Sto} (hw : Ok n w) (hn : n + 100 ≤ 1000000000) (hr : Pure r) (x0 : D) (x2 x3 x4 x5 x6 x7 x8 x9 x10 x11 x12 : Option D) :
    ∃ (w' : Int × Int × Int) (r' : Sto) (y3 y4 y5 y6 y7 y8 y9 y10 : Option D), Ok (n + 100) w' ∧ Pure r' ∧
      evSs (run tbl 1000 (k+4)) 1000 (.cons (.asg (.nm 3) (.idx (.lst (.cons (.int 1) (.cons (.int 1) (.cons (.bin .pow (.int 10) (.int 20)) .nil)))) (.call "_law_dip" (.cons (.var 1) (.cons (.int 3) .nil)))))
    (.cons (.asg (.tp (.cons (.nm 4) (.cons (.nm 5) .nil))) (.call "_law_rows" (.cons (.var 1) (.cons (.var 3) .nil))))
    (.cons (.par2 6 7 (.call "_law_some" (.cons (.var 1) .nil)) (.call "_law_some" (.cons (.var 1) .nil)))
    (.cons (.ite (.cmp .eq (.call "_law_dip" (.cons (.var 1) (.cons (.int 2) .nil))) (.int 0)) (.cons (.asg (.nm 6) (.tup .nil))
    .nil) .nil)
    (.cons (.asg (.nm 8) (.call "_law_reads" (.cons (.var 4) (.cons (.var 5) (.cons (.var 6) (.cons (.var 7) .nil))))))
    (.cons (.ite (.not1 (.call "_law_like" (.cons (.call "reads" (.cons (.var 4) (.cons (.var 5) (.cons (.var 6) (.cons (.var 7) .nil))))) (.cons (.var 8) .nil)))) (.cons (.ret (.bl false))
    .nil) .nil)
    (.cons (.asg (.nm 9) (.tup (.cons (.call "_law_dip" (.cons (.var 1) (.cons (.int 2) .nil))) (.cons (.bin .add (.int 2) (.call "_law_dip" (.cons (.var 1) (.cons (.int 2) .nil)))) (.cons (.bin .add (.int 4) (.call "_law_dip" (.cons (.var 1) (.cons (.int 9) .nil)))) (.cons (.bin .add (.int 13) (.call "_law_dip" (.cons (.var 1) (.cons (.int 9) .nil)))) .nil))))))
    (.cons (.asgLc 10 [("lot", 11)] (.nm 11) (.seq (.tup (.cons (.var 6) (.cons (.var 7) .nil)))) .none (.bi .tuple (.cons (.lc [("k", 12)] (.nm 12) (.seq (.var 11)) .none (.idx (.var 9) (.var 12))) .nil)))
    (.cons (.ite (.not1 (.call "_law_like" (.cons (.call "reads" (.cons (.call "_law_named" (.cons (.var 4) (.cons (.var 9) .nil))) (.cons (.call "_law_named" (.cons (.var 5) (.cons (.var 9) .nil))) (.cons (.idx (.var 10) (.int 0)) (.cons (.idx (.var 10) (.int 1)) .nil))))) (.cons (.var 8) .nil)))) (.cons (.ret (.bl false))
    .nil) .nil)
    .nil))))))))) [some x0, some (.loc 0), x2, x3, x4, x5, x6, x7, x8, x9, x10, x11, x12] (Wl w r) =
        .nx [some x0, some (.loc 0), x2, y3, y4, y5, y6, y7, y8, y9, y10, x11, x12] (Wl w' r') := by
  have hL2 : (2 : Nat) ≤ LIM := by decide
  have hL3 : (3 : Nat) ≤ LIM := by decide
  have hL4 : (4 : Nat) ≤ LIM := by decide
  have hL0 : (0 : Nat) ≤ LIM := by decide
  have hL0' : (0 : Nat) < LIM := by decide
  have hL1' : (1 : Nat) < LIM := by decide
  obtain ⟨d1, w1, a1, b1, o1, e1⟩ := dip (k+3) hw (by omega) (show (0 : Int) < 3 by decide) (by decide) hr
  obtain ⟨g, hg, eg⟩ := pick a1 b1
  obtain ⟨row, other, w2, p2, q2, l2, m2, o2, e2⟩ := rows (k+1) o1 (by omega) hg hr
  obtain ⟨dn0, w3, p3, l3, o3, e3⟩ := some_of (k+2) o2 (by omega) hr
  obtain ⟨ab, w4, p4, l4, o4, e4⟩ := some_of (k+2) o3 (by omega) hr
  obtain ⟨d5, w5, a5, b5, o5, e5⟩ := dip (k+3) o4 (by omega) (show (0 : Int) < 2 by decide) (by decide) hr
  obtain ⟨dn, hdn, pdn, ldn⟩ : ∃ dn : List Int, (if d5 = 0 then [] else dn0) = dn ∧ (∀ i ∈ dn, 0 ≤ i ∧ i < 4) ∧ dn.length ≤ 4 := by
    refine ⟨_, rfl, ?_, ?_⟩
    · split
      · simp
      · exact p3
    · split
      · simp
      · exact l3
  obtain ⟨a, w6, a6, b6, o6, e6⟩ := dip (k+3) o5 (by omega) (show (0 : Int) < 2 by decide) (by decide) hr
  obtain ⟨b, w7, a7, b7, o7, e7⟩ := dip (k+3) o6 (by omega) (show (0 : Int) < 2 by decide) (by decide) hr
  obtain ⟨c, w8, a8, b8, o8, e8⟩ := dip (k+3) o7 (by omega) (show (0 : Int) < 9 by decide) (by decide) hr
  obtain ⟨d, w9, a9, b9, o9, e9⟩ := dip (k+3) o8 (by omega) (show (0 : Int) < 9 by decide) (by decide) hr
  have mono := mono4 (a := a) (b := 2 + b) (c := 4 + c) (d := 13 + d) (by omega) (by omega) (by omega)
  have l1 := law_reads (k+3) (w := w5) hr row other (by omega) dn ab
  have l2' := reads (k+3) (w := w5) hr row other dn ab
  have hlot := lot (k+4)
  have hr' : Pure (r ++ [.lst [.tup ((dn.map (nm4 a (2 + b) (4 + c) (13 + d))).map .int), .tup ((ab.map (nm4 a (2 + b) (4 + c) (13 + d))).map .int)]]) := fun m => by
    rw [List.all_append, hr m]
    simp only [List.all_cons, List.all_nil, O.under, D.unders, D.under, under_ks, Bool.and_true]
  have n1 := named (k+3) (w := w9) hr' row p2 (by omega) a (2 + b) (4 + c) (13 + d)
  have n2 := named (k+3) (w := w9) hr' other q2 (by omega) a (2 + b) (4 + c) (13 + d)
  have n3 := reads (k+3) (w := w9) hr' (row.map (ren (nm4 a (2 + b) (4 + c) (13 + d)))) (other.map (ren (nm4 a (2 + b) (4 + c) (13 + d)))) (dn.map (nm4 a (2 + b) (4 + c) (13 + d))) (ab.map (nm4 a (2 + b) (4 + c) (13 + d)))
  rw [rd_ren mono dn ab pdn p4 row other p2 q2] at n3
  refine ⟨w9, _, some (.int g), some (.tup (row.map pr)), some (.tup (other.map pr)), some (.tup (dn.map .int)), some (.tup (ab.map .int)), some (.bl (rd dn ab (row.zip other))), some (.tup [.int a, .int (2 + b), .int (4 + c), .int (13 + d)]), some (.loc (r.length + 1)), ?_, hr', ?_⟩
  · obtain ⟨q1, q2, q3, q4, q5, q6⟩ := o9
    exact ⟨q1, q2, q3, q4, by omega, by omega⟩
  simp only [Nat.add_assoc, Nat.reduceAdd] at e1 e2 e3 e4 e5 e6 e7 e8 e9 l1 l2' n1 n2 n3
  refine (seq_nx (ρ' := [some x0, some (.loc 0), x2, some (.int g), x4, x5, x6, x7, x8, x9, x10, x11, x12]) (s' := Wl w1 r) ?_).trans ?_
  · simp [evS, evE, evEs, binT, idxT, seqOf, lstOf, e1, hL3, eg, bindT]
  refine (seq_nx (ρ' := [some x0, some (.loc 0), x2, some (.int g), some (.tup (row.map pr)), some (.tup (other.map pr)), x6, x7, x8, x9, x10, x11, x12]) (s' := Wl w2 r) ?_).trans ?_
  · have bt : bindT (.tp (.cons (.nm 4) (.cons (.nm 5) .nil))) (.tup [.tup (row.map pr), .tup (other.map pr)]) [some x0, some (.loc 0), x2, some (.int g), x4, x5, x6, x7, x8, x9, x10, x11, x12] = some [some x0, some (.loc 0), x2, some (.int g), some (.tup (row.map pr)), some (.tup (other.map pr)), x6, x7, x8, x9, x10, x11, x12] := rfl
    simp [evS, evE, evEs, e2, bt]
  refine (seq_nx (ρ' := [some x0, some (.loc 0), x2, some (.int g), some (.tup (row.map pr)), some (.tup (other.map pr)), some (.tup (dn0.map .int)), some (.tup (ab.map .int)), x8, x9, x10, x11, x12]) (s' := Wl w4 r) ?_).trans ?_
  · simp [evS, evE, evEs, e3, e4]
  refine (seq_nx (ρ' := [some x0, some (.loc 0), x2, some (.int g), some (.tup (row.map pr)), some (.tup (other.map pr)), some (.tup (dn.map .int)), some (.tup (ab.map .int)), x8, x9, x10, x11, x12]) (s' := Wl w5 r) ?_).trans ?_
  · subst hdn
    by_cases h5 : d5 = 0
    · simp [evS, evSs, evE, evEs, e5, cmpT, eqT, truth, h5, bindT, Fl.then]
    · simp [evS, evSs, evE, evEs, e5, cmpT, eqT, truth, h5, bindT, Fl.then]
  refine (seq_nx (ρ' := [some x0, some (.loc 0), x2, some (.int g), some (.tup (row.map pr)), some (.tup (other.map pr)), some (.tup (dn.map .int)), some (.tup (ab.map .int)), some (.bl (rd dn ab (row.zip other))), x9, x10, x11, x12]) (s' := Wl w5 r) ?_).trans ?_
  · simp [evS, evE, evEs, l1, bindT]
  refine (seq_nx (ρ' := [some x0, some (.loc 0), x2, some (.int g), some (.tup (row.map pr)), some (.tup (other.map pr)), some (.tup (dn.map .int)), some (.tup (ab.map .int)), some (.bl (rd dn ab (row.zip other))), x9, x10, x11, x12]) (s' := Wl w5 r) ?_).trans ?_
  · have hl := like (k+3) (w := w5) hr (rd dn ab (row.zip other)) (rd dn ab (row.zip other))
    simp only [Nat.add_assoc, Nat.reduceAdd] at hl
    simp [evS, evSs, evE, evEs, l2', hl, truth]
  refine (seq_nx (ρ' := [some x0, some (.loc 0), x2, some (.int g), some (.tup (row.map pr)), some (.tup (other.map pr)), some (.tup (dn.map .int)), some (.tup (ab.map .int)), some (.bl (rd dn ab (row.zip other))), some (.tup [.int a, .int (2 + b), .int (4 + c), .int (13 + d)]), x10, x11, x12]) (s' := Wl w9 r) ?_).trans ?_
  · simp [evS, evE, evEs, e6, e7, e8, e9, binT, bindT, hL4]
  refine (seq_nx (ρ' := [some x0, some (.loc 0), x2, some (.int g), some (.tup (row.map pr)), some (.tup (other.map pr)), some (.tup (dn.map .int)), some (.tup (ab.map .int)), some (.bl (rd dn ab (row.zip other))), some (.tup [.int a, .int (2 + b), .int (4 + c), .int (13 + d)]), some (.loc (r.length + 1)), x11, x12]) (s' := Wl w9 (r ++ [.lst [.tup ((dn.map (nm4 a (2 + b) (4 + c) (13 + d))).map .int), .tup ((ab.map (nm4 a (2 + b) (4 + c) (13 + d))).map .int)]])) ?_).trans ?_
  · generalize E.idx (.var 9) (.var 12) = ent at hlot ⊢
    simp only [evC, List.map_map] at hlot
    simp [evS, evE, evEs, evTs, evIt, itemsOf, evC, lcLoop, stands, lcF, bindT, wipeE, biT, seqOf, lstOf, hL2, hL0', hL1', hlot _ dn pdn ldn a (2 + b) (4 + c) (13 + d), hlot _ ab p4 l4 a (2 + b) (4 + c) (13 + d), Wl]
  refine (seq_nx (ρ' := [some x0, some (.loc 0), x2, some (.int g), some (.tup (row.map pr)), some (.tup (other.map pr)), some (.tup (dn.map .int)), some (.tup (ab.map .int)), some (.bl (rd dn ab (row.zip other))), some (.tup [.int a, .int (2 + b), .int (4 + c), .int (13 + d)]), some (.loc (r.length + 1)), x11, x12]) (s' := Wl w9 (r ++ [.lst [.tup ((dn.map (nm4 a (2 + b) (4 + c) (13 + d))).map .int), .tup ((ab.map (nm4 a (2 + b) (4 + c) (13 + d))).map .int)]])) ?_).trans ?_
  · have hl := like (k+3) (w := w9) hr' (rd dn ab (row.zip other)) (rd dn ab (row.zip other))
    simp only [Nat.add_assoc, Nat.reduceAdd] at hl
    have hla : lstAt (r.length + 1) (Wl w9 (r ++ [.lst [.tup ((dn.map (nm4 a (2 + b) (4 + c) (13 + d))).map .int), .tup ((ab.map (nm4 a (2 + b) (4 + c) (13 + d))).map .int)]])) = some [.tup ((dn.map (nm4 a (2 + b) (4 + c) (13 + d))).map .int), .tup ((ab.map (nm4 a (2 + b) (4 + c) (13 + d))).map .int)] := by
      simp [lstAt, Wl]
    generalize Wl w9 (r ++ [.lst [.tup ((dn.map (nm4 a (2 + b) (4 + c) (13 + d))).map .int), .tup ((ab.map (nm4 a (2 + b) (4 + c) (13 + d))).map .int)]]) = s9 at n1 n2 n3 hl hla ⊢
    generalize (dn.map (nm4 a (2 + b) (4 + c) (13 + d))).map D.int = J1 at n3 hla ⊢
    generalize (ab.map (nm4 a (2 + b) (4 + c) (13 + d))).map D.int = J2 at n3 hla ⊢
    have i0 : L2.atI [D.tup J1, D.tup J2] 0 = some (.tup J1) := rfl
    have i1 : L2.atI [D.tup J1, D.tup J2] 1 = some (.tup J2) := rfl
    generalize (row.map (ren (nm4 a (2 + b) (4 + c) (13 + d)))).map pr = R1 at n1 n3
    generalize (other.map (ren (nm4 a (2 + b) (4 + c) (13 + d)))).map pr = R2 at n2 n3
    simp [evS, evSs, evE, evEs, n1, n2, n3, hl, hla, idxT, seqOf, lstOf, i0, i1, truth]
  simp only [evSs]
end K21
end
section
set_option maxRecDepth 100000
set_option maxHeartbeats 4000000
set_option linter.unusedSimpArgs false
namespace K21
open Fy
open PySem (PyData)
theorem turns (k : Nat) (x0 : D) (F : D → Env → Sto → Fl)
    (hF : ∀ (n : Int) (w : Int × Int × Int) (r : Sto), Ok n w → n + 100 ≤ 1000000000 → Pure r → ∀ (i : Nat) (x2 x3 x4 x5 x6 x7 x8 x9 x10 x11 x12 : Option D),
      ∃ (w' : Int × Int × Int) (r' : Sto) (y2 y3 y4 y5 y6 y7 y8 y9 y10 : Option D), Ok (n + 100) w' ∧ Pure r' ∧
        F (.int i) [some x0, some (.loc 0), x2, x3, x4, x5, x6, x7, x8, x9, x10, x11, x12] (Wl w r) = .nx [some x0, some (.loc 0), y2, y3, y4, y5, y6, y7, y8, y9, y10, x11, x12] (Wl w' r')) :
    ∀ (ks : List Nat) (n : Int) (w : Int × Int × Int) (r : Sto), Ok n w → n + 100 * ks.length ≤ 1000000000 → Pure r → ∀ (x2 x3 x4 x5 x6 x7 x8 x9 x10 x11 x12 : Option D),
      ∃ ρ' s', forLoop F [] (ks.map fun i => D.int (i : Nat)) [some x0, some (.loc 0), x2, x3, x4, x5, x6, x7, x8, x9, x10, x11, x12] (Wl w r) = .nx ρ' s'
  | [], n, w, r, hw, hn, hr, x2, x3, x4, x5, x6, x7, x8, x9, x10, x11, x12 => ⟨_, _, by simp [forLoop, stands]; exact ⟨rfl, rfl⟩⟩
  | i :: ks, n, w, r, hw, hn, hr, x2, x3, x4, x5, x6, x7, x8, x9, x10, x11, x12 => by
    simp only [List.length_cons, Int.natCast_add, Int.natCast_one, Int.mul_add, Int.mul_one] at hn
    obtain ⟨w', r', y2, y3, y4, y5, y6, y7, y8, y9, y10, o1, hp, e⟩ := hF n w r hw (by omega) hr i x2 x3 x4 x5 x6 x7 x8 x9 x10 x11 x12
    obtain ⟨ρ', s', e2⟩ := turns k x0 F hF ks (n + 100) w' r' o1 (by omega) hp y2 y3 y4 y5 y6 y7 y8 y9 y10 x11 x12
    refine ⟨ρ', s', ?_⟩
    simp only [List.map_cons, forLoop, stands, List.all_nil, if_true, e, Fl.turn, e2]
theorem fin : ∀ ns : List Int, ns.length ≤ 63 → ∃ s, run tbl 1000 12 "law" [.fro (ns.map .int)] [] = .ok (.v (.bl true)) s := by
  intro ns hn
  obtain ⟨w, hw, ew⟩ := well 10 ns hn
  have hp : Pure [] := fun _ => rfl
  have ht := turns 11 (.fro (ns.map .int)) _ (fun n w r hw hn hr i x2 x3 x4 x5 x6 x7 x8 x9 x10 x11 x12 => by
    obtain ⟨w', r', y3, y4, y5, y6, y7, y8, y9, y10, h1, h2, h3⟩ := turn 7 hw hn hr (.fro (ns.map .int)) (some (.int i)) x3 x4 x5 x6 x7 x8 x9 x10 x11 x12
    refine ⟨w', r', some (.int i), y3, y4, y5, y6, y7, y8, y9, y10, h1, h2, ?_⟩
    rw [← h3]
    exact forF_ap (.nm 2) _ (.int i) _ _) (List.range 40) 0 w [] hw (by simp) hp none none none none none none none none none none none
  obtain ⟨ρ', s', ht⟩ := ht
  have e40 : rangeOf [.int 40] = some ⟨(List.range 40).map fun i => D.int (i : Nat), []⟩ := by
    have := rng_nat 40 (by decide)
    exact this
  rw [run, tbl_law]
  simp only [f_law]
  simp only [Fn.fill, List.append_nil, List.drop_nil, List.length_cons, List.length_nil, Nat.zero_add, if_true, List.map_cons, List.map_nil, Nat.add_one_sub_one, Nat.reduceSub]
  rw [seq_nx (ρ' := [some (.fro (ns.map .int)), some (.loc 0), none, none, none, none, none, none, none, none, none, none, none]) (s' := Wl w []) (by
    simp [evS, evE, evEs, ew, bindT, List.replicate, Wl])]
  rw [for_then (I := ⟨(List.range 40).map fun i => D.int (i : Nat), []⟩) (s' := Wl w []) (by simp only [evIt, evEs, evE, R.bind_ok, keepR_v, e40, ofO_some])]
  dsimp only
  rw [ht]
  simp [Fl.then, evSs, evS, evE, Fl.res, tidy, D.under]
end K21
end
section
set_option Elab.async false
set_option linter.all false
set_option maxRecDepth 100000
set_option maxHeartbeats 0
namespace K21
open PySem L2 Fy
theorem all_mk {P : Program} {w : World} {K : PySem.W.Frag} {h : Heap} {mg : Str → Option Value} {fa f0 f1 f2 f3 f4 f5 f6 f7 f8 f9 : Addr} (X : K.In h) (G : h.Ns mainGlobals mg) (hfa : mg "law" = some (.ref fa))
    {od0 an0 od1 an1 od2 an2 od3 an3 od4 an4 od5 an5 od6 an6 od7 an7 od8 an8 od9 an9 : Option Addr} {sl0 sl1 sl2 sl3 sl4 sl5 sl6 sl7 sl8 sl9 : Array (Option Value)} {oc0 kV0 dc0 pm0 cd0 ct0 oc1 kV1 dc1 pm1 cd1 ct1 oc2 kV2 dc2 pm2 cd2 ct2 oc3 kV3 dc3 pm3 cd3 ct3 oc4 kV4 dc4 pm4 cd4 ct4 oc5 kV5 dc5 pm5 cd5 ct5 oc6 kV6 dc6 pm6 cd6 ct6 oc7 kV7 dc7 pm7 cd7 ct7 oc8 kV8 dc8 pm8 cd8 ct8 oc9 kV9 dc9 pm9 cd9 ct9 : Value}
    (a0 : PySem.W.nsIn K mainGlobals "reads" = some (some (.ref f0))) (l0 : K.lookup f0 = some ⟨oc0, od0, .func (PySem.W.fnOf "reads" "reads" (defArgs st_reads) (defBody st_reads) (defScope st_reads) .none kV0 dc0 pm0 an0 cd0 ct0), sl0⟩) (c0 : PySem.W.codeIn K cd0 "reads" = true) (k0 : PySem.W.keepIn K (.ref f0) = true)
    (a1 : PySem.W.nsIn K mainGlobals "_law_well" = some (some (.ref f1))) (l1 : K.lookup f1 = some ⟨oc1, od1, .func (PySem.W.fnOf "_law_well" "_law_well" (defArgs st__law_well) (defBody st__law_well) (defScope st__law_well) .none kV1 dc1 pm1 an1 cd1 ct1), sl1⟩) (c1 : PySem.W.codeIn K cd1 "_law_well" = true) (k1 : PySem.W.keepIn K (.ref f1) = true)
    (a2 : PySem.W.nsIn K mainGlobals "_law_dip" = some (some (.ref f2))) (l2 : K.lookup f2 = some ⟨oc2, od2, .func (PySem.W.fnOf "_law_dip" "_law_dip" (defArgs st__law_dip) (defBody st__law_dip) (defScope st__law_dip) .none kV2 dc2 pm2 an2 cd2 ct2), sl2⟩) (c2 : PySem.W.codeIn K cd2 "_law_dip" = true) (k2 : PySem.W.keepIn K (.ref f2) = true)
    (a3 : PySem.W.nsIn K mainGlobals "_law_like" = some (some (.ref f3))) (l3 : K.lookup f3 = some ⟨oc3, od3, .func (PySem.W.fnOf "_law_like" "_law_like" (defArgs st__law_like) (defBody st__law_like) (defScope st__law_like) .none kV3 dc3 pm3 an3 cd3 ct3), sl3⟩) (c3 : PySem.W.codeIn K cd3 "_law_like" = true) (k3 : PySem.W.keepIn K (.ref f3) = true)
    (a4 : PySem.W.nsIn K mainGlobals "_law_reads" = some (some (.ref f4))) (l4 : K.lookup f4 = some ⟨oc4, od4, .func (PySem.W.fnOf "_law_reads" "_law_reads" (defArgs st__law_reads) (defBody st__law_reads) (defScope st__law_reads) .none kV4 dc4 pm4 an4 cd4 ct4), sl4⟩) (c4 : PySem.W.codeIn K cd4 "_law_reads" = true) (k4 : PySem.W.keepIn K (.ref f4) = true)
    (a5 : PySem.W.nsIn K mainGlobals "_law_entry" = some (some (.ref f5))) (l5 : K.lookup f5 = some ⟨oc5, od5, .func (PySem.W.fnOf "_law_entry" "_law_entry" (defArgs st__law_entry) (defBody st__law_entry) (defScope st__law_entry) .none kV5 dc5 pm5 an5 cd5 ct5), sl5⟩) (c5 : PySem.W.codeIn K cd5 "_law_entry" = true) (k5 : PySem.W.keepIn K (.ref f5) = true)
    (a6 : PySem.W.nsIn K mainGlobals "_law_rows" = some (some (.ref f6))) (l6 : K.lookup f6 = some ⟨oc6, od6, .func (PySem.W.fnOf "_law_rows" "_law_rows" (defArgs st__law_rows) (defBody st__law_rows) (defScope st__law_rows) .none kV6 dc6 pm6 an6 cd6 ct6), sl6⟩) (c6 : PySem.W.codeIn K cd6 "_law_rows" = true) (k6 : PySem.W.keepIn K (.ref f6) = true)
    (a7 : PySem.W.nsIn K mainGlobals "_law_some" = some (some (.ref f7))) (l7 : K.lookup f7 = some ⟨oc7, od7, .func (PySem.W.fnOf "_law_some" "_law_some" (defArgs st__law_some) (defBody st__law_some) (defScope st__law_some) .none kV7 dc7 pm7 an7 cd7 ct7), sl7⟩) (c7 : PySem.W.codeIn K cd7 "_law_some" = true) (k7 : PySem.W.keepIn K (.ref f7) = true)
    (a8 : PySem.W.nsIn K mainGlobals "_law_named" = some (some (.ref f8))) (l8 : K.lookup f8 = some ⟨oc8, od8, .func (PySem.W.fnOf "_law_named" "_law_named" (defArgs st__law_named) (defBody st__law_named) (defScope st__law_named) .none kV8 dc8 pm8 an8 cd8 ct8), sl8⟩) (c8 : PySem.W.codeIn K cd8 "_law_named" = true) (k8 : PySem.W.keepIn K (.ref f8) = true)
    (a9 : PySem.W.nsIn K mainGlobals "law" = some (some (.ref f9))) (l9 : K.lookup f9 = some ⟨oc9, od9, .func (PySem.W.fnOf "law" "law" (defArgs st_law) (defBody st_law) (defScope st_law) .none kV9 dc9 pm9 an9 cd9 ct9), sl9⟩) (c9 : PySem.W.codeIn K cd9 "law" = true) (k9 : PySem.W.keepIn K (.ref f9) = true)
    (z0 : PySem.W.nsIn K mainGlobals "len" = some none)
    (z1 : PySem.W.nsIn K mainGlobals "int" = some none)
    (z2 : PySem.W.nsIn K mainGlobals "abs" = some none)
    (z3 : PySem.W.nsIn K mainGlobals "isinstance" = some none)
    (z4 : PySem.W.nsIn K mainGlobals "all" = some none)
    (z5 : PySem.W.nsIn K mainGlobals "any" = some none)
    (z6 : PySem.W.nsIn K mainGlobals "tuple" = some none)
    (z7 : PySem.W.nsIn K mainGlobals "list" = some none)
    (z8 : PySem.W.nsIn K mainGlobals "min" = some none)
    (z9 : PySem.W.nsIn K mainGlobals "max" = some none)
    (z10 : PySem.W.nsIn K mainGlobals "sum" = some none)
    (z11 : PySem.W.nsIn K mainGlobals "sorted" = some none)
    (z12 : PySem.W.nsIn K mainGlobals "range" = some none)
    (z13 : PySem.W.nsIn K mainGlobals "zip" = some none)
    (z14 : PySem.W.nsIn K mainGlobals "enumerate" = some none)
    (z15 : PySem.W.nsIn K mainGlobals "bool" = some none)
    (z16 : PySem.W.nsIn K mainGlobals "str" = some none)
    (z17 : PySem.W.nsIn K mainGlobals "dict" = some none)
    (fin : ∀ ns : List Int, ns.length ≤ 63 → ∃ s, run tbl 1000 12 "law" [.fro (ns.map .int)] [] = .ok (.v (.bl true)) s) :
    ∃ fd : FuncData, (∀ (s : Shared) (v : Value), BindsTo s fd ⟨[v], []⟩ [("script", v)]) ∧ ∀ base : Heap, K.In base → base.Ns mainGlobals mg → FnOk P w K mg base (L2.CX P w) 12 fa fd ["script"] (spLaw K) := by
  have e := hfa.symm.trans (PySem.W.mg_of X G a9)
  cases e
  have T : TopOk mg := by
    refine ⟨fun f => ?_, ⟨PySem.W.mg_none_of X G z12, PySem.W.mg_none_of X G z13, PySem.W.mg_none_of X G z14⟩, fun p hp => ?_⟩
    · cases f
      · exact PySem.W.mg_none_of X G z0
      · exact PySem.W.mg_none_of X G z1
      · exact PySem.W.mg_none_of X G z2
      · exact PySem.W.mg_none_of X G z3
      · exact PySem.W.mg_none_of X G z4
      · exact PySem.W.mg_none_of X G z5
      · exact PySem.W.mg_none_of X G z6
      · exact PySem.W.mg_none_of X G z7
      · exact PySem.W.mg_none_of X G z8
      · exact PySem.W.mg_none_of X G z9
      · exact PySem.W.mg_none_of X G z10
      · exact PySem.W.mg_none_of X G z11
    · simp only [tyNames, List.mem_cons, List.not_mem_nil, or_false] at hp
      rcases hp with rfl | rfl | rfl | rfl | rfl | rfl
      · exact PySem.W.mg_none_of X G z1
      · exact PySem.W.mg_none_of X G z15
      · exact PySem.W.mg_none_of X G z16
      · exact PySem.W.mg_none_of X G z6
      · exact PySem.W.mg_none_of X G z7
      · exact PySem.W.mg_none_of X G z17
  have F0 := fun_mk (st := st_reads) l0 c0 k0
  have B0 := F0.binds (ps := ["row", "other", "done", "able"]) fun _ _ _ _ _ _ us hl => match us, hl with | [_, _, _, _], _ => rfl
  have F1 := fun_mk (st := st__law_well) l1 c1 k1
  have B1 := F1.binds (ps := ["script", "k"]) fun _ _ _ _ _ _ us hl => match us, hl with | [_, _], _ => rfl
  have F2 := fun_mk (st := st__law_dip) l2 c2 k2
  have B2 := F2.binds (ps := ["well", "many"]) fun _ _ _ _ _ _ us hl => match us, hl with | [_, _], _ => rfl
  have F3 := fun_mk (st := st__law_like) l3 c3 k3
  have B3 := F3.binds (ps := ["told", "due"]) fun _ _ _ _ _ _ us hl => match us, hl with | [_, _], _ => rfl
  have F4 := fun_mk (st := st__law_reads) l4 c4 k4
  have B4 := F4.binds (ps := ["row", "other", "done", "able"]) fun _ _ _ _ _ _ us hl => match us, hl with | [_, _, _, _], _ => rfl
  have F5 := fun_mk (st := st__law_entry) l5 c5 k5
  have B5 := F5.binds (ps := ["well", "great"]) fun _ _ _ _ _ _ us hl => match us, hl with | [_, _], _ => rfl
  have F6 := fun_mk (st := st__law_rows) l6 c6 k6
  have B6 := F6.binds (ps := ["well", "great"]) fun _ _ _ _ _ _ us hl => match us, hl with | [_, _], _ => rfl
  have F7 := fun_mk (st := st__law_some) l7 c7 k7
  have B7 := F7.binds (ps := ["well"]) fun _ _ _ _ _ _ us hl => match us, hl with | [_], _ => rfl
  have F8 := fun_mk (st := st__law_named) l8 c8 k8
  have B8 := F8.binds (ps := ["row", "names"]) fun _ _ _ _ _ _ us hl => match us, hl with | [_, _], _ => rfl
  have F9 := fun_mk (st := st_law) l9 c9 k9
  have B9 := F9.binds (ps := ["script"]) fun _ _ _ _ _ _ us hl => match us, hl with | [_], _ => rfl
  have D : ∀ f d, tbl f = some d → DefOk ⟨K, gaOf mg⟩ mg tbl f d := by
    intro f d h
    unfold tbl at h
    split at h
    · rename_i e; subst e; cases h; exact ⟨_, _, _, _, _, _, F0, sc_reads, rfl, rfl, PySem.W.mg_of X G a0, ck_reads, binds0 (K := K) B0 rfl rfl⟩
    split at h
    · rename_i e; subst e; cases h; exact ⟨_, _, _, _, _, _, F1, sc__law_well, rfl, rfl, PySem.W.mg_of X G a1, ck__law_well, binds0 (K := K) B1 rfl rfl⟩
    split at h
    · rename_i e; subst e; cases h; exact ⟨_, _, _, _, _, _, F2, sc__law_dip, rfl, rfl, PySem.W.mg_of X G a2, ck__law_dip, binds0 (K := K) B2 rfl rfl⟩
    split at h
    · rename_i e; subst e; cases h; exact ⟨_, _, _, _, _, _, F3, sc__law_like, rfl, rfl, PySem.W.mg_of X G a3, ck__law_like, binds0 (K := K) B3 rfl rfl⟩
    split at h
    · rename_i e; subst e; cases h; exact ⟨_, _, _, _, _, _, F4, sc__law_reads, rfl, rfl, PySem.W.mg_of X G a4, ck__law_reads, binds0 (K := K) B4 rfl rfl⟩
    split at h
    · rename_i e; subst e; cases h; exact ⟨_, _, _, _, _, _, F5, sc__law_entry, rfl, rfl, PySem.W.mg_of X G a5, ck__law_entry, binds0 (K := K) B5 rfl rfl⟩
    split at h
    · rename_i e; subst e; cases h; exact ⟨_, _, _, _, _, _, F6, sc__law_rows, rfl, rfl, PySem.W.mg_of X G a6, ck__law_rows, binds0 (K := K) B6 rfl rfl⟩
    split at h
    · rename_i e; subst e; cases h; exact ⟨_, _, _, _, _, _, F7, sc__law_some, rfl, rfl, PySem.W.mg_of X G a7, ck__law_some, binds0 (K := K) B7 rfl rfl⟩
    split at h
    · rename_i e; subst e; cases h; exact ⟨_, _, _, _, _, _, F8, sc__law_named, rfl, rfl, PySem.W.mg_of X G a8, ck__law_named, binds0 (K := K) B8 rfl rfl⟩
    split at h
    · rename_i e; subst e; cases h; exact ⟨_, _, _, _, _, _, F9, sc_law, rfl, rfl, PySem.W.mg_of X G a9, ck_law, binds0 (K := K) B9 rfl rfl⟩
    cases h
  refine ⟨PySem.W.fnOf "law" "law" (defArgs st_law) (defBody st_law) (defScope st_law) .none kV9 dc9 pm9 an9 cd9 ct9, fun s v => .of_eq rfl, fun base _ _ => ?_⟩
  exact law_end (g := ⟨K, gaOf mg⟩) (tb := tbl) (wf := 1000) (d := f_law) rfl (fn_step T (fn_ok T D 11) tbl_law F9 sc_law rfl rfl ck_law) fin
end K21
open PySem PySem.W PyProof.Rows
set_option maxHeartbeats 0 in
theorem PySem.Challenge.cw_fairneed_k21_whole_rows_that_read_well_holds : PySem.Challenge.rw_fairneed_k21_whole_rows_that_read_well.Holds := by
  w_on; o_law; k_head; (case hw => w_witness2)
  k_fill
  refine L2.walk_of (l := PySem.Challenge.rw_fairneed_k21_whole_rows_that_read_well) (n := 63) (k := 12) (x := "script") (CX := fun w => L2.CX (PySem.Challenge.rw_fairneed_k21_whole_rows_that_read_well).prog w) (sp := fun w => Fy.spLaw _) rfl (by decide) rfl ⟨rfl, by decide, by decide⟩ (fun w h Y => PySem.W.kIn_of Y) ?F (fun _ _ a ns hl hO hS => ⟨a, ns, rfl, hl, hO, hS, fun _ => rfl⟩) (fun _ _ _ _ _ h => Fy.cx_false h)
  case F =>
    intro w mg fa h KX G hmg
    refine' K21.all_mk KX G hmg ?a0 ?l0 ?c0 ?k0 ?a1 ?l1 ?c1 ?k1 ?a2 ?l2 ?c2 ?k2 ?a3 ?l3 ?c3 ?k3 ?a4 ?l4 ?c4 ?k4 ?a5 ?l5 ?c5 ?k5 ?a6 ?l6 ?c6 ?k6 ?a7 ?l7 ?c7 ?k7 ?a8 ?l8 ?c8 ?k8 ?a9 ?l9 ?c9 ?k9 ?z0 ?z1 ?z2 ?z3 ?z4 ?z5 ?z6 ?z7 ?z8 ?z9 ?z10 ?z11 ?z12 ?z13 ?z14 ?z15 ?z16 ?z17 K21.fin
    (case a0 => k_is); (case l0 => k_is); (case c0 => k_is); (case k0 => k_is); (case a1 => k_is); (case l1 => k_is); (case c1 => k_is); (case k1 => k_is); (case a2 => k_is); (case l2 => k_is); (case c2 => k_is); (case k2 => k_is); (case a3 => k_is); (case l3 => k_is); (case c3 => k_is); (case k3 => k_is); (case a4 => k_is); (case l4 => k_is); (case c4 => k_is); (case k4 => k_is); (case a5 => k_is); (case l5 => k_is); (case c5 => k_is); (case k5 => k_is); (case a6 => k_is); (case l6 => k_is); (case c6 => k_is); (case k6 => k_is); (case a7 => k_is); (case l7 => k_is); (case c7 => k_is); (case k7 => k_is); (case a8 => k_is); (case l8 => k_is); (case c8 => k_is); (case k8 => k_is); (case a9 => k_is); (case l9 => k_is); (case c9 => k_is); (case k9 => k_is); (case z0 => k_is); (case z1 => k_is); (case z2 => k_is); (case z3 => k_is); (case z4 => k_is); (case z5 => k_is); (case z6 => k_is); (case z7 => k_is); (case z8 => k_is); (case z9 => k_is); (case z10 => k_is); (case z11 => k_is); (case z12 => k_is); (case z13 => k_is); (case z14 => k_is); (case z15 => k_is); (case z16 => k_is); (case z17 => k_is)
end
