import PyProof.Rows.All
import Wide.All
import OpenK.AllK
import Wide.FinOn
import PySem.Str
import HandS.ForMost
import HandS.Flow
import HandS.Conv
import HandS.Deep
import HandS.TupAny
import HandS.TupMul
import HandS.IsInst
import HandS.Wide
import HandS.Defaults
import HandS.TupLe
import HandS.SortInts
import HandS.Zip
import HandS.Rev
import HandS.Comp
import HandS.Strs
import HandS.Ends
import HandS.HeadHook2
import KE.KStateDown
import HandS.More
import HandS.Words
import HandS.WordsExc
import HandS.Head0
import HandS.Head1
import HandS.Head2
import HandS.HeadEnd
import PySem.Challenge.RW_heldwrites_k51_whole_order_of_rules
set_option Elab.async false
set_option linter.all false
set_option maxRecDepth 100000
set_option maxHeartbeats 0
section
/-! PX, the core: abstract values, stores, a small IR of Python, its evaluator. Plain Lean. -/
namespace PX
abbrev Str := PySem.Str

/-- a value: tuples are values, lists (dicts, instances) are places in the store -/
inductive D where
  | non | bl (b : Bool) | int (i : Int) | str (x : List Nat) | tup (ds : List D) | loc (n : Nat)
  deriving Inhabited
inductive O where
  /-- a list; one that is only read -/
  | lst (xs : List D) | ro (xs : List D)
  deriving Inhabited
abbrev S := List O
structure Exn where
  cls : Str
  fs : List (Str × D)

/-- the longest list or text -/
def big : Nat := 16777216
/-- a bound of divisors and of two factors -/
def wide : Int := 2 ^ 8192
def wide64 : Int := 2 ^ 64

mutual
def D.beq : D → D → Bool
  | .non, .non => true
  | .bl a, .bl b => a == b
  | .int a, .int b => a == b
  | .str a, .str b => a == b
  | .tup a, .tup b => D.beqs a b
  | .loc a, .loc b => a == b
  | _, _ => false
def D.beqs : List D → List D → Bool
  | [], [] => true
  | x :: xs, y :: ys => D.beq x y && D.beqs xs ys
  | _, _ => false
end
mutual
theorem D.beq_ok : ∀ {a b : D}, D.beq a b = true → a = b
  | .non, b, h => by cases b <;> simp [D.beq] at h ⊢
  | .bl a, b, h => by cases b <;> simp [D.beq] at h ⊢; exact h
  | .int a, b, h => by cases b <;> simp [D.beq] at h ⊢; exact h
  | .str a, b, h => by cases b <;> simp [D.beq] at h ⊢; exact h
  | .loc a, b, h => by cases b <;> simp [D.beq] at h ⊢; exact h
  | .tup a, b, h => by
    cases b with
    | tup b => simp only [D.beq] at h; rw [D.beqs_ok h]
    | _ => simp [D.beq] at h
theorem D.beqs_ok : ∀ {a b : List D}, D.beqs a b = true → a = b
  | [], b, h => by cases b <;> simp [D.beqs] at h ⊢
  | x :: xs, b, h => by
    cases b with
    | nil => simp [D.beqs] at h
    | cons y ys =>
      simp only [D.beqs, Bool.and_eq_true] at h
      rw [D.beq_ok h.1, D.beqs_ok h.2]
end
mutual
theorem D.beq_self : ∀ a : D, D.beq a a = true
  | .non => rfl
  | .bl a => by simp [D.beq]
  | .int a => by simp [D.beq]
  | .str a => by simp [D.beq]
  | .loc a => by simp [D.beq]
  | .tup a => by simp only [D.beq]; exact D.beqs_self a
theorem D.beqs_self : ∀ a : List D, D.beqs a a = true
  | [] => rfl
  | x :: xs => by simp only [D.beqs, D.beq_self x, D.beqs_self xs, Bool.and_self]
end
instance : DecidableEq D := fun a b => if h : D.beq a b = true then .isTrue (D.beq_ok h) else .isFalse fun e => h (e ▸ D.beq_self a)
def O.beq : O → O → Bool
  | .lst a, .lst b => D.beqs a b
  | .ro a, .ro b => D.beqs a b
  | _, _ => false
theorem O.beq_ok {a b : O} (h : O.beq a b = true) : a = b := by
  cases a <;> cases b <;> simp only [O.beq] at h <;> first | rw [D.beqs_ok h] | (cases h)
theorem O.beq_self (a : O) : O.beq a a = true := by cases a <;> exact D.beqs_self _
instance : DecidableEq O := fun a b => if h : O.beq a b = true then .isTrue (O.beq_ok h) else .isFalse fun e => h (e ▸ O.beq_self a)

/-! ### answers -/
inductive R (α : Type) where
  | ok (a : α) (s : S)
  | exn (x : Exn) (s : S)
  | bad
def R.bind {α β : Type} (r : R α) (f : α → S → R β) : R β := match r with
  | .ok a s => f a s
  | .exn x s => .exn x s
  | .bad => .bad
/-- an option as an answer -/
def R.opt {α : Type} (o : Option α) (s : S) : R α := match o with
  | some a => .ok a s
  | none => .bad
/-- by a truth value -/
def R.by {α : Type} (o : Option Bool) (a b : R α) : R α := match o with
  | some true => a
  | some false => b
  | none => .bad
abbrev Env := List (Option D)
inductive RS where
  | nxt (η : Env) (s : S)
  | ret (d : D) (s : S)
  | brk (η : Env) (s : S)
  | cnt (η : Env) (s : S)
  | exn (x : Exn) (η : Env) (s : S)
  | bad
def RS.thn (r : RS) (f : Env → S → RS) : RS := match r with
  | .nxt η s => f η s
  | x => x
def R.run {α : Type} (r : R α) (η : Env) (f : α → S → RS) : RS := match r with
  | .ok a s => f a s
  | .exn x s => .exn x η s
  | .bad => .bad
def RS.opt {α : Type} (o : Option α) (f : α → RS) : RS := match o with
  | some a => f a
  | none => .bad
def RS.by (o : Option Bool) (a b : RS) : RS := match o with
  | some true => a
  | some false => b
  | none => .bad
/-- behind a turn -/
def RS.turn (r : RS) (f : Env → S → RS) : RS := match r with
  | .nxt η s => f η s
  | .cnt η s => f η s
  | .brk η s => .nxt η s
  | x => x
section
variable {α β : Type}
@[simp] theorem bind_ok (a : α) (s : S) (f : α → S → R β) : (R.ok a s).bind f = f a s := rfl.trans rfl
@[simp] theorem bind_exn (x : Exn) (s : S) (f : α → S → R β) : (R.exn x s).bind f = .exn x s := rfl.trans rfl
@[simp] theorem bind_bad (f : α → S → R β) : (R.bad : R α).bind f = .bad := rfl.trans rfl
@[simp] theorem opt_some (a : α) (s : S) : R.opt (some a) s = .ok a s := rfl.trans rfl
@[simp] theorem opt_none (s : S) : R.opt (none : Option α) s = .bad := rfl.trans rfl
@[simp] theorem by_true (a b : R α) : R.by (some true) a b = a := rfl.trans rfl
@[simp] theorem by_false (a b : R α) : R.by (some false) a b = b := rfl.trans rfl
@[simp] theorem by_none (a b : R α) : R.by none a b = .bad := rfl.trans rfl
theorem by_dec (p : Prop) [Decidable p] (a b : R α) : R.by (some (decide p)) a b = if p then a else b := by by_cases h : p <;> simp [h]
@[simp] theorem thn_nxt (η : Env) (s : S) (f : Env → S → RS) : (RS.nxt η s).thn f = f η s := rfl.trans rfl
@[simp] theorem thn_ret (d : D) (s : S) (f : Env → S → RS) : (RS.ret d s).thn f = .ret d s := rfl.trans rfl
@[simp] theorem thn_brk (η : Env) (s : S) (f : Env → S → RS) : (RS.brk η s).thn f = .brk η s := rfl.trans rfl
@[simp] theorem thn_cnt (η : Env) (s : S) (f : Env → S → RS) : (RS.cnt η s).thn f = .cnt η s := rfl.trans rfl
@[simp] theorem thn_exn (x : Exn) (η : Env) (s : S) (f : Env → S → RS) : (RS.exn x η s).thn f = .exn x η s := rfl.trans rfl
@[simp] theorem thn_bad (f : Env → S → RS) : RS.bad.thn f = .bad := rfl.trans rfl
@[simp] theorem run_ok (a : α) (s : S) (η : Env) (f : α → S → RS) : (R.ok a s).run η f = f a s := rfl.trans rfl
@[simp] theorem run_exn (x : Exn) (s : S) (η : Env) (f : α → S → RS) : (R.exn x s).run η f = .exn x η s := rfl.trans rfl
@[simp] theorem run_bad (η : Env) (f : α → S → RS) : (R.bad : R α).run η f = .bad := rfl.trans rfl
@[simp] theorem sopt_some (a : α) (f : α → RS) : RS.opt (some a) f = f a := rfl.trans rfl
@[simp] theorem sopt_none (f : α → RS) : RS.opt none f = .bad := rfl.trans rfl
@[simp] theorem sby_true (a b : RS) : RS.by (some true) a b = a := rfl.trans rfl
@[simp] theorem sby_false (a b : RS) : RS.by (some false) a b = b := rfl.trans rfl
@[simp] theorem sby_none (a b : RS) : RS.by none a b = .bad := rfl.trans rfl
theorem sby_dec (p : Prop) [Decidable p] (a b : RS) : RS.by (some (decide p)) a b = if p then a else b := by by_cases h : p <;> simp [h]
@[simp] theorem turn_nxt (η : Env) (s : S) (f : Env → S → RS) : (RS.nxt η s).turn f = f η s := rfl.trans rfl
@[simp] theorem turn_cnt (η : Env) (s : S) (f : Env → S → RS) : (RS.cnt η s).turn f = f η s := rfl.trans rfl
@[simp] theorem turn_brk (η : Env) (s : S) (f : Env → S → RS) : (RS.brk η s).turn f = .nxt η s := rfl.trans rfl
@[simp] theorem turn_ret (d : D) (s : S) (f : Env → S → RS) : (RS.ret d s).turn f = .ret d s := rfl.trans rfl
@[simp] theorem turn_exn (x : Exn) (η : Env) (s : S) (f : Env → S → RS) : (RS.exn x η s).turn f = .exn x η s := rfl.trans rfl
@[simp] theorem turn_bad (f : Env → S → RS) : RS.bad.turn f = .bad := rfl.trans rfl
end
@[simp] def getV : Nat → Env → Option D
  | 0, x :: _ => x
  | n + 1, _ :: r => getV n r
  | _, [] => none
@[simp] def setV : Nat → Option D → Env → Env
  | 0, v, _ :: r => v :: r
  | n + 1, v, x :: r => x :: setV n v r
  | _, _, [] => []
@[simp] def wipeV : List Nat → Env → Env
  | [], η => η
  | i :: is, η => setV i none (wipeV is η)

/-! ### the IR -/
inductive BOp where | add | sub | mul | fdiv | mod | shr
  deriving DecidableEq
inductive COp where | eq | ne | lt | le | gt | ge | mem | nmem
  deriving DecidableEq
inductive Ty where | int | bool | str | tuple | list
  deriving DecidableEq
/-- built-ins on values -/
inductive B where | len | int | str | abs | divmod | min2 | max2
  deriving DecidableEq
/-- built-ins on a list's items -/
inductive LB where | tuple | any | all | min | max | sum | len | join
  deriving DecidableEq
/-- methods by name -/
inductive M where | append | pop | extend | reverse | insert | clear | index | count | split | partition | startswith | find | upper | replace
  deriving DecidableEq
mutual
inductive Tg where
  | nm (i : Nat)
  | tp (ts : Tgs)
inductive Tgs where
  | nil
  | cons (t : Tg) (r : Tgs)
end
mutual
inductive E where
  | var (i : Nat)
  | cst (d : D)
  | glo (x : Str)
  | tup (es : Es)
  | lst (l : L)
  | bin (op : BOp) (a b : E)
  | cmp (op : COp) (a b : E)
  | chn (o1 o2 : COp) (a b c : E)
  | isn (a : E)
  | isnn (a : E)
  | and (a b : E)
  | or (a b : E)
  | not (a : E)
  | neg (a : E)
  | ife (c a b : E)
  | call (f : Str) (es : Es)
  | ix (a i : E)
  | sl (a : E) (lo hi : Oe)
  | tupR (lo hi : E)
  | isin (a : E) (ts : List Ty)
  | b (f : B) (es : Es)
  | lb (f : LB) (l : L)
  | m (f : M) (o : E) (es : Es)
  | idx (o a : E)
  | idxG (x : Str) (a : E)
inductive Es where
  | nil
  | cons (e : E) (r : Es)
/-- a list that nobody else holds, or the items of a value -/
inductive L where
  | lit (es : Es)
  | comp (own : List Nat) (t : Tg) (it : It) (c : Oe) (x : E)
  | ofv (e : E)
  | lof (l : L)
  | rng (lo hi : E)
  | cat (a b : L)
  | srt (l : L)
inductive It where
  | sq (l : L)
  | rng (lo hi : E)
  | enu (a : E)
  | zip (a b : E)
  | rev (l : L)
inductive Oe where
  | none
  | some (e : E)
end
mutual
def slotsT : Tg → List Nat
  | .nm i => [i]
  | .tp ts => slotsTs ts
def slotsTs : Tgs → List Nat
  | .nil => []
  | .cons t r => slotsT t ++ slotsTs r
end
mutual
inductive Stm where
  | pass
  | expr (e : E)
  | asg (t : Tg) (e : E)
  | setIx (o i e : E)
  | aug (i : Nat) (op : BOp) (e : E)
  | ife (c : E) (a b : Blk)
  | fr (t : Tg) (it : It) (b : Blk)
  | whl (c : E) (b : Blk)
  | ret (e : E)
  | retN
  | brk
  | cnt
  | rais (e : E)
inductive Blk where
  | nil
  | cons (a : Stm) (r : Blk)
end
structure Fn where
  np : Nat
  nv : Nat
  body : Blk

/-! ### on values -/
mutual
/-- no places within, of depth below n -/
def okN : Nat → D → Bool
  | _, .non => true
  | _, .bl _ => true
  | _, .int _ => true
  | _, .str _ => true
  | 0, .tup _ => false
  | n + 1, .tup ds => okNs n ds
  | _, .loc _ => false
def okNs : Nat → List D → Bool
  | _, [] => true
  | n, x :: xs => okN n x && okNs n xs
end
mutual
/-- Python's == -/
def eqv : D → D → Bool
  | .non, .non => true
  | .bl a, .bl b => a == b
  | .bl a, .int j => (if a then 1 else 0) == j
  | .int i, .bl b => i == (if b then 1 else 0)
  | .int i, .int j => i == j
  | .str x, .str y => x == y
  | .tup xs, .tup ys => eqvs xs ys
  | _, _ => false
def eqvs : List D → List D → Bool
  | [], [] => true
  | x :: xs, y :: ys => eqv x y && eqvs xs ys
  | _, _ => false
end
def maxDepth : Nat := 40
def ok (d : D) : Bool := okN maxDepth d
def S.lst (s : S) (n : Nat) : Option (List D) := match s[n]? with
  | some (.lst xs) => some xs
  | some (.ro xs) => some xs
  | none => none
/-- a list that may be changed -/
def S.mlst (s : S) (n : Nat) : Option (List D) := match s[n]? with
  | some (.lst xs) => some xs
  | _ => none
def eqD (s : S) : D → D → Option Bool
  | .loc m, .loc n => match S.lst s m, S.lst s n with
    | some xs, some ys => if okNs maxDepth xs && okNs maxDepth ys then some (eqvs xs ys) else none
    | _, _ => none
  | .loc m, b => match S.lst s m with
    | some xs => if okNs maxDepth xs && ok b then some false else none
    | none => none
  | a, .loc n => match S.lst s n with
    | some ys => if okNs maxDepth ys && ok a then some false else none
    | none => none
  | a, b => if ok a && ok b then some (eqv a b) else none
def truth (s : S) : D → Option Bool
  | .non => some false
  | .bl b => some b
  | .int i => some (i != 0)
  | .str x => some (!x.isEmpty)
  | .tup xs => some (!xs.isEmpty)
  | .loc n => match S.lst s n with
    | some xs => some (!xs.isEmpty)
    | none => none
/-- the items of a tuple or list -/
def itemsOf (s : S) : D → Option (List D)
  | .tup xs => some xs
  | .loc n => S.lst s n
  | _ => none
@[simp] def intsD : List D → Option (List Int)
  | [] => some []
  | .int i :: r => match intsD r with
    | some l => some (i :: l)
    | none => none
  | _ => none
@[simp] def boolsD : List D → Option (List Bool)
  | [] => some []
  | .bl i :: r => match boolsD r with
    | some l => some (i :: l)
    | none => none
  | _ => none
@[simp] def strsD : List D → Option (List (List Nat))
  | [] => some []
  | .str i :: r => match strsD r with
    | some l => some (i :: l)
    | none => none
  | _ => none
/-- a new list -/
def alloc (xs : List D) (s : S) : R D := .ok (.loc s.length) (s ++ [.lst xs])
def small64 (i : Int) : Bool := decide (-wide64 < i) && decide (i < wide64)
def smallW (i : Int) : Bool := decide (-wide < i) && decide (i < wide)
def mulOk (i j : Int) : Bool := small64 i || small64 j || (smallW i && smallW j)
def bin (op : BOp) (a b : D) (s : S) : R D := match op, a, b with
  | .add, .int i, .int j => .ok (.int (i + j)) s
  | .add, .str x, .str y => if x.length + y.length ≤ big then .ok (.str (x ++ y)) s else .bad
  | .add, .tup x, .tup y => if x.length + y.length ≤ big then .ok (.tup (x ++ y)) s else .bad
  | .add, .loc m, .loc n => match S.mlst s m, S.mlst s n with
    | some x, some y => if x.length + y.length ≤ big then alloc (x ++ y) s else .bad
    | _, _ => .bad
  | .sub, .int i, .int j => .ok (.int (i - j)) s
  | .mul, .int i, .int j => if mulOk i j then .ok (.int (i * j)) s else .bad
  | .fdiv, .int i, .int j => if 0 < j ∧ j < wide then .ok (.int (i / j)) s else .bad
  | .mod, .int i, .int j => if 0 < j then .ok (.int (i % j)) s else .bad
  | .shr, .int i, .int j => if 0 ≤ j then .ok (.int (i / 2 ^ j.toNat)) s else .bad
  | _, _, _ => .bad
/-- x op= y: of ints only -/
def augD (op : BOp) (a b : D) (s : S) : R D := match a, b with
  | .int i, .int j => bin op (.int i) (.int j) s
  | _, _ => .bad
def mem (s : S) (x y : D) : Option Bool := match y with
  | .str z => match x with
    | .str [c] => some (decide (c ∈ z))
    | _ => none
  | _ => match itemsOf s y with
    | some ys => if ok x && okNs maxDepth ys then some (ys.any fun y => eqv y x) else none
    | none => none
def intsT : D → Option (List Int)
  | .tup xs => intsD xs
  | _ => none
def lexLt : List Int → List Int → Bool
  | [], [] => false
  | [], _ :: _ => true
  | _ :: _, [] => false
  | x :: xs, y :: ys => decide (x < y) || (decide (x = y) && lexLt xs ys)
def cmp (op : COp) (a b : D) (s : S) : Option Bool := match op with
  | .eq => eqD s a b
  | .ne => (eqD s a b).map not
  | .mem => mem s a b
  | .nmem => (mem s a b).map not
  | .lt => match a, b with
    | .int i, .int j => some (decide (i < j))
    | _, _ => none
  | .le => match a, b with
    | .int i, .int j => some (decide (i ≤ j))
    | .tup x, .tup y => match intsD x, intsD y with
      | some x, some y => some (!lexLt y x)
      | _, _ => none
    | _, _ => none
  | .gt => match a, b with
    | .int i, .int j => some (decide (j < i))
    | _, _ => none
  | .ge => match a, b with
    | .int i, .int j => some (decide (j ≤ i))
    | _, _ => none
def isTy (s : S) (d : D) (t : Ty) : Bool := match t, d with
  | .int, .int _ => true
  | .int, .bl _ => true
  | .bool, .bl _ => true
  | .str, .str _ => true
  | .tuple, .tup _ => true
  | .list, .loc n => (S.lst s n).isSome
  | _, _ => false
/-- Python's index -/
def ixOf (n : Nat) (i : Int) : Option Nat := if 0 ≤ i then (if i < n then some i.toNat else none) else if -(n : Int) ≤ i then some (i + n).toNat else none
def item (s : S) (a i : D) : Option D := match a, i with
  | .str x, .int i => match ixOf x.length i with
    | some k => match x[k]? with
      | some c => some (.str [c])
      | none => none
    | none => none
  | a, .int i => match itemsOf s a with
    | some xs => match ixOf xs.length i with
      | some k => xs[k]?
      | none => none
    | none => none
  | _, _ => none
/-- a bound of a slice, brought within -/
def clip (n : Nat) (i : Int) : Nat := if i < 0 then (i + n).toNat else min i.toNat n
def cut {α : Type} (xs : List α) (lo hi : Option Int) : List α :=
  let a := match lo with | some i => clip xs.length i | none => 0
  let b := match hi with | some i => clip xs.length i | none => xs.length
  (xs.drop a).take (b - a)
def intO : D → Option (Option Int)
  | .int i => some (some i)
  | _ => none
def slice (s : S) (a : D) (lo hi : Option Int) : R D := match a with
  | .str x => .ok (.str (cut x lo hi)) s
  | .tup x => .ok (.tup (cut x lo hi)) s
  | .loc n => match S.lst s n with
    | some x => alloc (cut x lo hi) s
    | none => .bad
  | _ => .bad
def bcall (f : B) (ds : List D) (s : S) : R D := match f, ds with
  | .len, [.str x] => .ok (.int x.length) s
  | .len, [d] => match itemsOf s d with
    | some xs => .ok (.int xs.length) s
    | none => .bad
  | .int, [.int i] => .ok (.int i) s
  | .int, [.bl b] => .ok (.int (if b then 1 else 0)) s
  | .str, [.int i] => if 0 ≤ i ∧ i < 10 then .ok (.str [48 + i.toNat]) s else .bad
  | .str, [.str x] => .ok (.str x) s
  | .abs, [.int i] => .ok (.int (if i < 0 then -i else i)) s
  | .divmod, [.int i, .int j] => if 0 < j ∧ j < 1073741824 then .ok (.tup [.int (i / j), .int (i % j)]) s else .bad
  | .min2, [.int i, .int j] => .ok (.int (if j < i then j else i)) s
  | .max2, [.int i, .int j] => .ok (.int (if i < j then j else i)) s
  | _, _ => .bad
@[simp] def minI : List Int → Option Int
  | [] => none
  | [x] => some x
  | x :: y :: r => match minI (y :: r) with
    | some m => some (if x ≤ m then x else m)
    | none => none
@[simp] def maxI : List Int → Option Int
  | [] => none
  | [x] => some x
  | x :: y :: r => match maxI (y :: r) with
    | some m => some (if m ≤ x then x else m)
    | none => none
@[simp] def sumI : List Int → Int
  | [] => 0
  | x :: r => x + sumI r
def lbcall (f : LB) (xs : List D) : Option D := match f with
  | .tuple => some (.tup xs)
  | .len => some (.int xs.length)
  | .any => (boolsD xs).map fun bs => .bl (bs.any id)
  | .all => (boolsD xs).map fun bs => .bl (bs.all id)
  | .min => match intsD xs with
    | some is => (minI is).map .int
    | none => none
  | .max => match intsD xs with
    | some is => (maxI is).map .int
    | none => none
  | .sum => (intsD xs).map fun is => .int (sumI is)
  | .join => none
def ins (x : Int) : List Int → List Int
  | [] => [x]
  | y :: r => if x ≤ y then x :: y :: r else y :: ins x r
def isort : List Int → List Int
  | [] => []
  | x :: r => ins x (isort r)
def sortD (xs : List D) : Option (List D) := (intsD xs).map fun is => (isort is).map .int
def setS (s : S) (n : Nat) (o : O) : S := s.set n o
def mcall (f : M) (o : D) (ds : List D) (s : S) : R D := match o with
  | .loc n => match S.mlst s n with
    | none => .bad
    | some xs => match f, ds with
      | .append, [d] => if xs.length < big then .ok .non (setS s n (.lst (xs ++ [d]))) else .bad
      | .pop, [] => match xs[xs.length - 1]? with
        | some y => .ok y (setS s n (.lst xs.dropLast))
        | none => .bad
      | .pop, [.int i] => match ixOf xs.length i with
        | some k => match xs[k]? with
          | some y => if xs.length ≤ big then .ok y (setS s n (.lst (xs.eraseIdx k))) else .bad
          | none => .bad
        | none => .bad
      | .reverse, [] => .ok .non (setS s n (.lst xs.reverse))
      | .clear, [] => .ok .non (setS s n (.lst []))
      | .extend, [.loc m] => match S.mlst s m with
        | some ys => if xs.length + ys.length ≤ big ∧ m ≠ n then .ok .non (setS s n (.lst (xs ++ ys))) else .bad
        | none => .bad
      | _, _ => .bad
  | _ => .bad
/-- the first place of an equal item -/
def idxV (s : S) (x y : D) : Option D := match x with
  | .loc n => match S.lst s n with
    | some xs => if okNs maxDepth xs && ok y then (xs.findIdx? fun e => eqv e y).map fun j => .int (j : Nat) else none
    | none => none
  | _ => none
/-- .. of a constant tuple of texts -/
def idxT (x y : D) : Option D := match x, y with
  | .tup xs, .str z => match strsD xs with
    | some zs => (zs.findIdx? fun e => e == z).map fun j => .int (j : Nat)
    | none => none
  | _, _ => none
def setItem (o i d : D) (s : S) : Option S := match o, i with
  | .loc n, .int i => match S.mlst s n with
    | some xs => match ixOf xs.length i with
      | some k => some (setS s n (.lst (xs.set k d)))
      | none => none
    | none => none
  | _, _ => none
mutual
def bind1 : Tg → D → Env → Option Env
  | .nm i, d, η => some (setV i (some d) η)
  | .tp ts, .tup ds, η => bindAll ts ds η
  | .tp _, _, _ => none
def bindAll : Tgs → List D → Env → Option Env
  | .nil, [], η => some η
  | .cons t r, d :: ds, η => match bind1 t d η with
    | some η => bindAll r ds η
    | none => none
  | _, _, _ => none
end
/-- lists that are walked stay -/
def watched (W : List (Nat × List D)) (s : S) : Bool := W.all fun p => match S.lst s p.1 with
  | some xs => D.beqs xs p.2
  | none => false
def compLoop (W : List (Nat × List D)) (t : Tg) (c : Env → S → R D) (x : Env → S → R D) (η : Env) : List D → List D → S → R (List D)
  | [], acc, s => .ok acc s
  | d :: ds, acc, s => match bind1 t d η with
    | none => .bad
    | some η1 => (c η1 s).bind fun v s1 => R.by (truth s1 v)
        ((x η1 s1).bind fun y s2 => R.by (some (watched W s2)) (compLoop W t c x η ds (acc ++ [y]) s2) .bad)
        (R.by (some (watched W s1)) (compLoop W t c x η ds acc s1) .bad)
def forLoop (W : List (Nat × List D)) (t : Tg) (b : Env → S → RS) : List D → Env → S → RS
  | [], η, s => .nxt η s
  | d :: ds, η, s => match bind1 t d η with
    | none => .bad
    | some η1 => (b η1 s).turn fun η2 s2 => RS.by (some (watched W s2)) (forLoop W t b ds η2 s2) .bad
def whileLoop (c : Env → S → R D) (b : Env → S → RS) : Nat → Env → S → RS
  | 0, _, _ => .bad
  | f + 1, η, s => (c η s).run η fun v s1 => RS.by (truth s1 v) ((b η s1).turn fun η2 s2 => whileLoop c b f η2 s2) (.nxt η s1)
/-- the numbers from lo to below hi -/
def range (lo hi : Int) : List D := (List.range (hi - lo).toNat).map fun k => .int (lo + (k : Nat))
def enumFrom : Nat → List D → List D
  | _, [] => []
  | k, x :: r => .tup [.int k, x] :: enumFrom (k + 1) r
def zipD : List D → List D → List D
  | x :: xs, y :: ys => .tup [x, y] :: zipD xs ys
  | _, _ => []
def rngOk (lo hi : Int) : Bool := decide (-1000000000000 ≤ lo) && decide (lo ≤ 1000000000000) && decide (-1000000000000 ≤ hi) && decide (hi ≤ 1000000000000) && decide (hi - lo ≤ (big : Int))
def rngI (a b : D) : Option (List D) := match a, b with
  | .int i, .int j => if rngOk i j then some (range i j) else none
  | _, _ => none
/-- what a list's value shows: its items, and the place to be watched -/
def seen (s : S) (d : D) : Option (List D × List (Nat × List D)) := match d with
  | .tup xs => some (xs, [])
  | .loc n => match S.lst s n with
    | some xs => some (xs, [(n, xs)])
    | none => none
  | _ => none
def zipV (s : S) (x y : D) : Option (List D × List (Nat × List D)) := match x, y with
  | .tup a, .tup b => if a.length ≤ big then some (zipD a b, []) else none
  | .loc m, .loc n => match S.lst s m, S.lst s n with
    | some a, some b => if a.length ≤ big then some (zipD a b, [(m, a), (n, b)]) else none
    | _, _ => none
  | _, _ => none
def enuV (s : S) (x : D) : Option (List D × List (Nat × List D)) := match x with
  | .loc n => match S.lst s n with
    | some xs => if xs.length ≤ big then some (enumFrom 0 xs, [(n, xs)]) else none
    | none => none
  | _ => none
def negD : D → Option D
  | .int i => some (.int (-i))
  | _ => none
def isNon : D → Bool
  | .non => true
  | _ => false

structure Ctx where
  call : Str → List D → S → R D
  glo : Str → Option D
  fuel : Nat

mutual
def evE (C : Ctx) : E → Env → S → R D
  | .var i, η, s => R.opt (getV i η) s
  | .cst d, _, s => .ok d s
  | .glo x, _, s => R.opt (C.glo x) s
  | .tup es, η, s => (evEs C es η s).bind fun ds s => .ok (.tup ds) s
  | .lst l, η, s => (evL C l η s).bind fun p s => alloc p.1 s
  | .bin op a b, η, s => (evE C a η s).bind fun x s => (evE C b η s).bind fun y s => bin op x y s
  | .cmp op a b, η, s => (evE C a η s).bind fun x s => (evE C b η s).bind fun y s => R.opt ((cmp op x y s).map .bl) s
  | .chn o1 o2 a b c, η, s => (evE C a η s).bind fun x s => (evE C b η s).bind fun y s => R.by (cmp o1 x y s)
      ((evE C c η s).bind fun z s => R.opt ((cmp o2 y z s).map .bl) s) (.ok (.bl false) s)
  | .isn a, η, s => (evE C a η s).bind fun x s => .ok (.bl (isNon x)) s
  | .isnn a, η, s => (evE C a η s).bind fun x s => .ok (.bl (!isNon x)) s
  | .and a b, η, s => (evE C a η s).bind fun x s => R.by (truth s x) (evE C b η s) (.ok x s)
  | .or a b, η, s => (evE C a η s).bind fun x s => R.by (truth s x) (.ok x s) (evE C b η s)
  | .not a, η, s => (evE C a η s).bind fun x s => R.opt ((truth s x).map fun k => .bl (!k)) s
  | .neg a, η, s => (evE C a η s).bind fun x s => R.opt (negD x) s
  | .ife c a b, η, s => (evE C c η s).bind fun x s => R.by (truth s x) (evE C a η s) (evE C b η s)
  | .call f es, η, s => (evEs C es η s).bind fun ds s => C.call f ds s
  | .ix a i, η, s => (evE C a η s).bind fun x s => (evE C i η s).bind fun y s => R.opt (item s x y) s
  | .sl a lo hi, η, s => (evE C a η s).bind fun x s => (evO C lo η s).bind fun u s => (evO C hi η s).bind fun v s => slice s x u v
  | .tupR lo hi, η, s => (evE C lo η s).bind fun x s => (evE C hi η s).bind fun y s => R.opt ((rngI x y).map .tup) s
  | .isin a ts, η, s => (evE C a η s).bind fun x s => .ok (.bl (ts.any fun t => isTy s x t)) s
  | .b f es, η, s => (evEs C es η s).bind fun ds s => bcall f ds s
  | .lb f l, η, s => (evL C l η s).bind fun p s => R.opt (lbcall f p.1) s
  | .m f o es, η, s => (evE C o η s).bind fun x s => (evEs C es η s).bind fun ds s => mcall f x ds s
  | .idx o a, η, s => (evE C o η s).bind fun x s => (evE C a η s).bind fun y s => R.opt (idxV s x y) s
  | .idxG x a, η, s => (evE C a η s).bind fun y s => R.opt ((C.glo x).bind fun d => idxT d y) s
def evEs (C : Ctx) : Es → Env → S → R (List D)
  | .nil, _, s => .ok [] s
  | .cons e r, η, s => (evE C e η s).bind fun x s => (evEs C r η s).bind fun xs s => .ok (x :: xs) s
def evL (C : Ctx) : L → Env → S → R (List D × List (Nat × List D))
  | .lit es, η, s => (evEs C es η s).bind fun ds s => .ok (ds, []) s
  | .comp own t it c x, η, s => (evIt C it η s).bind fun p s => (compLoop p.2 t (evC C c) (evE C x) (wipeV own η) p.1 [] s).bind fun ys s => .ok (ys, []) s
  | .ofv e, η, s => (evE C e η s).bind fun x s => R.opt (seen s x) s
  | .lof l, η, s => (evL C l η s).bind fun p s => .ok (p.1, []) s
  | .rng lo hi, η, s => (evE C lo η s).bind fun x s => (evE C hi η s).bind fun y s => R.opt ((rngI x y).map fun l => (l, [])) s
  | .cat a b, η, s => (evL C a η s).bind fun p s => (evL C b η s).bind fun q s => if p.1.length + q.1.length ≤ big then .ok (p.1 ++ q.1, []) s else .bad
  | .srt l, η, s => (evL C l η s).bind fun p s => R.opt ((sortD p.1).map fun ys => (ys, [])) s
def evIt (C : Ctx) : It → Env → S → R (List D × List (Nat × List D))
  | .sq l, η, s => evL C l η s
  | .rng lo hi, η, s => (evE C lo η s).bind fun x s => (evE C hi η s).bind fun y s => R.opt ((rngI x y).map fun l => (l, [])) s
  | .enu a, η, s => (evE C a η s).bind fun x s => R.opt (enuV s x) s
  | .zip a b, η, s => (evE C a η s).bind fun x s => (evE C b η s).bind fun y s => R.opt (zipV s x y) s
  | .rev l, η, s => (evL C l η s).bind fun p s => .ok (p.1.reverse, p.2) s
def evO (C : Ctx) : Oe → Env → S → R (Option Int)
  | .none, _, s => .ok none s
  | .some e, η, s => (evE C e η s).bind fun x s => R.opt (intO x) s
def evC (C : Ctx) : Oe → Env → S → R D
  | .none, _, s => .ok (.bl true) s
  | .some e, η, s => evE C e η s
end
mutual
def evS (C : Ctx) : Stm → Env → S → RS
  | .pass, η, s => .nxt η s
  | .expr e, η, s => (evE C e η s).run η fun _ s => .nxt η s
  | .asg t e, η, s => (evE C e η s).run η fun d s => RS.opt (bind1 t d η) fun η => .nxt η s
  | .setIx o i e, η, s => (evE C e η s).run η fun d s => (evE C o η s).run η fun x s => (evE C i η s).run η fun y s => RS.opt (setItem x y d s) fun s => .nxt η s
  | .aug i op e, η, s => RS.opt (getV i η) fun x => (evE C e η s).run η fun y s => (augD op x y s).run η fun z s => .nxt (setV i (some z) η) s
  | .ife c a b, η, s => (evE C c η s).run η fun x s => RS.by (truth s x) (evB C a η s) (evB C b η s)
  | .fr t it b, η, s => (evIt C it η s).run η fun p s => forLoop p.2 t (evB C b) p.1 η s
  | .whl c b, η, s => whileLoop (evE C c) (evB C b) C.fuel η s
  | .ret e, η, s => (evE C e η s).run η fun d s => .ret d s
  | .retN, _, s => .ret .non s
  | .brk, η, s => .brk η s
  | .cnt, η, s => .cnt η s
  | .rais _, _, _ => .bad
def evB (C : Ctx) : Blk → Env → S → RS
  | .nil, η, s => .nxt η s
  | .cons a r, η, s => (evS C a η s).thn fun η s => evB C r η s
end
/-! what stands behind a part, without its way looked into (for simp) -/
def seqB (r : RS) (C : Ctx) (b : Blk) : RS := r.thn fun η s => evB C b η s
def ifB (r : R D) (C : Ctx) (η : Env) (a b : Blk) : RS := r.run η fun x s => RS.by (truth s x) (evB C a η s) (evB C b η s)
def byB (o : Option Bool) (C : Ctx) (η : Env) (s : S) (a b : Blk) : RS := RS.by o (evB C a η s) (evB C b η s)
def andE (r : R D) (C : Ctx) (η : Env) (b : E) : R D := r.bind fun x s => R.by (truth s x) (evE C b η s) (.ok x s)
def andO (o : Option Bool) (x : D) (C : Ctx) (η : Env) (s : S) (b : E) : R D := R.by o (evE C b η s) (.ok x s)
def orE (r : R D) (C : Ctx) (η : Env) (b : E) : R D := r.bind fun x s => R.by (truth s x) (.ok x s) (evE C b η s)
def orO (o : Option Bool) (x : D) (C : Ctx) (η : Env) (s : S) (b : E) : R D := R.by o (.ok x s) (evE C b η s)
def ifE (r : R D) (C : Ctx) (η : Env) (a b : E) : R D := r.bind fun x s => R.by (truth s x) (evE C a η s) (evE C b η s)
def ifO (o : Option Bool) (C : Ctx) (η : Env) (s : S) (a b : E) : R D := R.by o (evE C a η s) (evE C b η s)
section
variable {C : Ctx} {η η' : Env} {s : S} {a b : Blk} {x : D} {e f : E}
@[simp] theorem seqB_nxt : seqB (.nxt η s) C b = evB C b η s := rfl.trans rfl
@[simp] theorem seqB_ret : seqB (.ret x s) C b = .ret x s := rfl.trans rfl
@[simp] theorem seqB_brk : seqB (.brk η s) C b = .brk η s := rfl.trans rfl
@[simp] theorem seqB_cnt : seqB (.cnt η s) C b = .cnt η s := rfl.trans rfl
@[simp] theorem seqB_exn {y : Exn} : seqB (.exn y η s) C b = .exn y η s := rfl.trans rfl
@[simp] theorem ifB_ok : ifB (.ok x s) C η a b = byB (truth s x) C η s a b := rfl.trans rfl
@[simp] theorem byB_true : byB (some true) C η s a b = evB C a η s := rfl.trans rfl
@[simp] theorem byB_false : byB (some false) C η s a b = evB C b η s := rfl.trans rfl
@[simp] theorem andE_ok : andE (.ok x s) C η e = andO (truth s x) x C η s e := rfl.trans rfl
@[simp] theorem andO_true : andO (some true) x C η s e = evE C e η s := rfl.trans rfl
@[simp] theorem andO_false : andO (some false) x C η s e = .ok x s := rfl.trans rfl
@[simp] theorem orE_ok : orE (.ok x s) C η e = orO (truth s x) x C η s e := rfl.trans rfl
@[simp] theorem orO_true : orO (some true) x C η s e = .ok x s := rfl.trans rfl
@[simp] theorem orO_false : orO (some false) x C η s e = evE C e η s := rfl.trans rfl
@[simp] theorem ifE_ok : ifE (.ok x s) C η e f = ifO (truth s x) C η s e f := rfl.trans rfl
@[simp] theorem ifO_true : ifO (some true) C η s e f = evE C e η s := rfl.trans rfl
@[simp] theorem ifO_false : ifO (some false) C η s e f = evE C f η s := rfl.trans rfl
end
/-! ### its equations -/
set_option autoImplicit true
@[simp] theorem evE_var {C : Ctx} {η : Env} {s : S} : evE C (E.var i) η s = R.opt (getV i η) s := rfl.trans rfl
@[simp] theorem evE_cst {C : Ctx} {η : Env} {s : S} : evE C (E.cst d) η s = .ok d s := rfl.trans rfl
@[simp] theorem evE_glo {C : Ctx} {η : Env} {s : S} : evE C (E.glo x) η s = R.opt (C.glo x) s := rfl.trans rfl
@[simp] theorem evE_tup {C : Ctx} {η : Env} {s : S} : evE C (E.tup es) η s = (evEs C es η s).bind fun ds s => .ok (.tup ds) s := rfl.trans rfl
@[simp] theorem evE_lst {C : Ctx} {η : Env} {s : S} : evE C (E.lst l) η s = (evL C l η s).bind fun p s => alloc p.1 s := rfl.trans rfl
@[simp] theorem evE_bin {C : Ctx} {η : Env} {s : S} : evE C (E.bin op a b) η s = (evE C a η s).bind fun x s => (evE C b η s).bind fun y s => bin op x y s := rfl.trans rfl
@[simp] theorem evE_cmp {C : Ctx} {η : Env} {s : S} : evE C (E.cmp op a b) η s = (evE C a η s).bind fun x s => (evE C b η s).bind fun y s => R.opt ((cmp op x y s).map .bl) s := rfl.trans rfl
@[simp] theorem evE_chn {C : Ctx} {η : Env} {s : S} : evE C (E.chn o1 o2 a b c) η s = (evE C a η s).bind fun x s => (evE C b η s).bind fun y s => R.by (cmp o1 x y s)
      ((evE C c η s).bind fun z s => R.opt ((cmp o2 y z s).map .bl) s) (.ok (.bl false) s) := rfl.trans rfl
@[simp] theorem evE_isn {C : Ctx} {η : Env} {s : S} : evE C (E.isn a) η s = (evE C a η s).bind fun x s => .ok (.bl (isNon x)) s := rfl.trans rfl
@[simp] theorem evE_isnn {C : Ctx} {η : Env} {s : S} : evE C (E.isnn a) η s = (evE C a η s).bind fun x s => .ok (.bl (!isNon x)) s := rfl.trans rfl
@[simp] theorem evE_and {C : Ctx} {η : Env} {s : S} : evE C (E.and a b) η s = andE (evE C a η s) C η b := rfl.trans rfl
@[simp] theorem evE_or {C : Ctx} {η : Env} {s : S} : evE C (E.or a b) η s = orE (evE C a η s) C η b := rfl.trans rfl
@[simp] theorem evE_not {C : Ctx} {η : Env} {s : S} : evE C (E.not a) η s = (evE C a η s).bind fun x s => R.opt ((truth s x).map fun k => .bl (!k)) s := rfl.trans rfl
@[simp] theorem evE_neg {C : Ctx} {η : Env} {s : S} : evE C (E.neg a) η s = (evE C a η s).bind fun x s => R.opt (negD x) s := rfl.trans rfl
@[simp] theorem evE_ife {C : Ctx} {η : Env} {s : S} : evE C (E.ife c a b) η s = ifE (evE C c η s) C η a b := rfl.trans rfl
@[simp] theorem evE_call {C : Ctx} {η : Env} {s : S} : evE C (E.call f es) η s = (evEs C es η s).bind fun ds s => C.call f ds s := rfl.trans rfl
@[simp] theorem evE_ix {C : Ctx} {η : Env} {s : S} : evE C (E.ix a i) η s = (evE C a η s).bind fun x s => (evE C i η s).bind fun y s => R.opt (item s x y) s := rfl.trans rfl
@[simp] theorem evE_sl {C : Ctx} {η : Env} {s : S} : evE C (E.sl a lo hi) η s = (evE C a η s).bind fun x s => (evO C lo η s).bind fun u s => (evO C hi η s).bind fun v s => slice s x u v := rfl.trans rfl
@[simp] theorem evE_tupR {C : Ctx} {η : Env} {s : S} : evE C (E.tupR lo hi) η s = (evE C lo η s).bind fun x s => (evE C hi η s).bind fun y s => R.opt ((rngI x y).map .tup) s := rfl.trans rfl
@[simp] theorem evE_isin {C : Ctx} {η : Env} {s : S} : evE C (E.isin a ts) η s = (evE C a η s).bind fun x s => .ok (.bl (ts.any fun t => isTy s x t)) s := rfl.trans rfl
@[simp] theorem evE_b {C : Ctx} {η : Env} {s : S} : evE C (E.b f es) η s = (evEs C es η s).bind fun ds s => bcall f ds s := rfl.trans rfl
@[simp] theorem evE_lb {C : Ctx} {η : Env} {s : S} : evE C (E.lb f l) η s = (evL C l η s).bind fun p s => R.opt (lbcall f p.1) s := rfl.trans rfl
@[simp] theorem evE_m {C : Ctx} {η : Env} {s : S} : evE C (E.m f o es) η s = (evE C o η s).bind fun x s => (evEs C es η s).bind fun ds s => mcall f x ds s := rfl.trans rfl
@[simp] theorem evE_idx {C : Ctx} {η : Env} {s : S} : evE C (E.idx o a) η s = (evE C o η s).bind fun x s => (evE C a η s).bind fun y s => R.opt (idxV s x y) s := rfl.trans rfl
@[simp] theorem evE_idxG {C : Ctx} {η : Env} {s : S} {x : Str} : evE C (E.idxG x a) η s = (evE C a η s).bind fun y s => R.opt ((C.glo x).bind fun d => idxT d y) s := rfl.trans rfl
@[simp] theorem evEs_nil {C : Ctx} {η : Env} {s : S} : evEs C (Es.nil) η s = .ok [] s := rfl.trans rfl
@[simp] theorem evEs_cons {C : Ctx} {η : Env} {s : S} : evEs C (Es.cons e r) η s = (evE C e η s).bind fun x s => (evEs C r η s).bind fun xs s => .ok (x :: xs) s := rfl.trans rfl
@[simp] theorem evL_lit {C : Ctx} {η : Env} {s : S} : evL C (L.lit es) η s = (evEs C es η s).bind fun ds s => .ok (ds, []) s := rfl.trans rfl
@[simp] theorem evL_comp {C : Ctx} {η : Env} {s : S} : evL C (L.comp own t it c x) η s = (evIt C it η s).bind fun p s => (compLoop p.2 t (evC C c) (evE C x) (wipeV own η) p.1 [] s).bind fun ys s => .ok (ys, []) s := rfl.trans rfl
@[simp] theorem evL_ofv {C : Ctx} {η : Env} {s : S} : evL C (L.ofv e) η s = (evE C e η s).bind fun x s => R.opt (seen s x) s := rfl.trans rfl
@[simp] theorem evL_lof {C : Ctx} {η : Env} {s : S} : evL C (L.lof l) η s = (evL C l η s).bind fun p s => .ok (p.1, []) s := rfl.trans rfl
@[simp] theorem evL_rng {C : Ctx} {η : Env} {s : S} : evL C (L.rng lo hi) η s = (evE C lo η s).bind fun x s => (evE C hi η s).bind fun y s => R.opt ((rngI x y).map fun l => (l, [])) s := rfl.trans rfl
@[simp] theorem evL_cat {C : Ctx} {η : Env} {s : S} : evL C (L.cat a b) η s = (evL C a η s).bind fun p s => (evL C b η s).bind fun q s => if p.1.length + q.1.length ≤ big then .ok (p.1 ++ q.1, []) s else .bad := rfl.trans rfl
@[simp] theorem evL_srt {C : Ctx} {η : Env} {s : S} : evL C (L.srt l) η s = (evL C l η s).bind fun p s => R.opt ((sortD p.1).map fun ys => (ys, [])) s := rfl.trans rfl
@[simp] theorem evIt_sq {C : Ctx} {η : Env} {s : S} : evIt C (It.sq l) η s = evL C l η s := rfl.trans rfl
@[simp] theorem evIt_rng {C : Ctx} {η : Env} {s : S} : evIt C (It.rng lo hi) η s = (evE C lo η s).bind fun x s => (evE C hi η s).bind fun y s => R.opt ((rngI x y).map fun l => (l, [])) s := rfl.trans rfl
@[simp] theorem evIt_enu {C : Ctx} {η : Env} {s : S} : evIt C (It.enu a) η s = (evE C a η s).bind fun x s => R.opt (enuV s x) s := rfl.trans rfl
@[simp] theorem evIt_zip {C : Ctx} {η : Env} {s : S} : evIt C (It.zip a b) η s = (evE C a η s).bind fun x s => (evE C b η s).bind fun y s => R.opt (zipV s x y) s := rfl.trans rfl
@[simp] theorem evIt_rev {C : Ctx} {η : Env} {s : S} : evIt C (It.rev l) η s = (evL C l η s).bind fun p s => .ok (p.1.reverse, p.2) s := rfl.trans rfl
@[simp] theorem evO_none {C : Ctx} {η : Env} {s : S} : evO C (Oe.none) η s = .ok none s := rfl.trans rfl
@[simp] theorem evO_some {C : Ctx} {η : Env} {s : S} : evO C (Oe.some e) η s = (evE C e η s).bind fun x s => R.opt (intO x) s := rfl.trans rfl
@[simp] theorem evC_none {C : Ctx} {η : Env} {s : S} : evC C (Oe.none) η s = .ok (.bl true) s := rfl.trans rfl
@[simp] theorem evC_some {C : Ctx} {η : Env} {s : S} : evC C (Oe.some e) η s = evE C e η s := rfl.trans rfl
@[simp] theorem evS_pass {C : Ctx} {η : Env} {s : S} : evS C (Stm.pass) η s = .nxt η s := rfl.trans rfl
@[simp] theorem evS_expr {C : Ctx} {η : Env} {s : S} : evS C (Stm.expr e) η s = (evE C e η s).run η fun _ s => .nxt η s := rfl.trans rfl
@[simp] theorem evS_asg {C : Ctx} {η : Env} {s : S} : evS C (Stm.asg t e) η s = (evE C e η s).run η fun d s => RS.opt (bind1 t d η) fun η => .nxt η s := rfl.trans rfl
@[simp] theorem evS_setIx {C : Ctx} {η : Env} {s : S} : evS C (Stm.setIx o i e) η s = (evE C e η s).run η fun d s => (evE C o η s).run η fun x s => (evE C i η s).run η fun y s => RS.opt (setItem x y d s) fun s => .nxt η s := rfl.trans rfl
@[simp] theorem evS_aug {C : Ctx} {η : Env} {s : S} : evS C (Stm.aug i op e) η s = RS.opt (getV i η) fun x => (evE C e η s).run η fun y s => (augD op x y s).run η fun z s => .nxt (setV i (some z) η) s := rfl.trans rfl
@[simp] theorem evS_ife {C : Ctx} {η : Env} {s : S} : evS C (Stm.ife c a b) η s = ifB (evE C c η s) C η a b := rfl.trans rfl
@[simp] theorem evS_fr {C : Ctx} {η : Env} {s : S} : evS C (Stm.fr t it b) η s = (evIt C it η s).run η fun p s => forLoop p.2 t (evB C b) p.1 η s := rfl.trans rfl
@[simp] theorem evS_whl {C : Ctx} {η : Env} {s : S} : evS C (Stm.whl c b) η s = whileLoop (evE C c) (evB C b) C.fuel η s := rfl.trans rfl
@[simp] theorem evS_ret {C : Ctx} {η : Env} {s : S} : evS C (Stm.ret e) η s = (evE C e η s).run η fun d s => .ret d s := rfl.trans rfl
@[simp] theorem evS_retN {C : Ctx} {η : Env} {s : S} : evS C (Stm.retN) η s = .ret .non s := rfl.trans rfl
@[simp] theorem evS_brk {C : Ctx} {η : Env} {s : S} : evS C (Stm.brk) η s = .brk η s := rfl.trans rfl
@[simp] theorem evS_cnt {C : Ctx} {η : Env} {s : S} : evS C (Stm.cnt) η s = .cnt η s := rfl.trans rfl
@[simp] theorem evS_rais {C : Ctx} {η : Env} {s : S} : evS C (Stm.rais z) η s = .bad := rfl.trans rfl
@[simp] theorem evB_nil {C : Ctx} {η : Env} {s : S} : evB C (Blk.nil) η s = .nxt η s := rfl.trans rfl
@[simp] theorem evB_cons {C : Ctx} {η : Env} {s : S} : evB C (Blk.cons a r) η s = seqB (evS C a η s) C r := rfl.trans rfl
set_option autoImplicit false
/-! ### behind a call -/
/- no place from n on within -/
mutual
def below (n : Nat) : D → Bool
  | .loc m => decide (m < n)
  | .tup ds => belows n ds
  | _ => true
def belows (n : Nat) : List D → Bool
  | [] => true
  | d :: ds => below n d && belows n ds
end
def belowO (n : Nat) : O → Bool
  | .lst xs => belows n xs
  | .ro xs => belows n xs
/-- what nobody holds is dropped: the answer is without new places, or one new list -/
def norm (s : S) (d : D) (s' : S) : R D :=
  let t := s'.take s.length
  if t = s ∨ t.all (belowO s.length) = true then
    if below s.length d then .ok d t
    else match d with
      | .loc k => match S.mlst s' k with
        | some xs => if belows s.length xs ∧ s.length ≤ k ∧ t.length = s.length then .ok (.loc s.length) (t ++ [.lst xs]) else .ok d s'
        | none => .ok d s'
      | _ => .ok d s'
  else .ok d s'
structure Prg where
  fns : List (Str × Fn)
  glo : List (Str × D)
def Prg.fn (P : Prg) (f : Str) : Option Fn := P.fns.lookup f
def Prg.gl (P : Prg) (f : Str) : Option D := P.glo.lookup f
/-- what a body's end is for the caller -/
def RS.out (s : S) (r : RS) : R D := match r with
  | .ret d s' => norm s d s'
  | .nxt _ s' => norm s .non s'
  | .exn x _ s' => .exn x s'
  | _ => .bad
@[simp] theorem out_ret (s : S) (d : D) (s' : S) : RS.out s (.ret d s') = norm s d s' := rfl.trans rfl
@[simp] theorem out_nxt (s : S) (η : Env) (s' : S) : RS.out s (.nxt η s') = norm s .non s' := rfl.trans rfl
def start (fn : Fn) (ds : List D) : Env := ds.map some ++ List.replicate (fn.nv - fn.np) none
def callN (P : Prg) (w : Nat) : Nat → Str → List D → S → R D
  | 0, _, _, _ => .bad
  | n + 1, f, ds, s => match P.fn f with
    | none => .bad
    | some fn => if ds.length = fn.np then
        RS.out s (evB ⟨callN P w n, P.gl, w⟩ fn.body (start fn ds) s)
      else .bad
end PX
end
section
/-! PX, soundness 1: how abstract values and stores lie in the hand layer's heap; readings by the evaluator -/
namespace PX
open PySem PySem.Spec PyProof.Rows L2

/-! ### values -/
mutual
inductive RV (K : PySem.W.Frag) (ρ : List Addr) (H : Hp) : V → D → Prop
  | non : RV K ρ H .non .non
  | bl (b : Bool) : RV K ρ H (.bl b) (.bl b)
  | int (i : Int) : RV K ρ H (.int i) (.int i)
  | str (x : PySem.Str) : PyData.strOk x = true → x.length ≤ sizeLine → RV K ρ H (.str x) (.str x.cps.toList)
  | tup {a : Addr} {vs : List V} {ds : List D} : SqT K H a vs → RVs K ρ H vs ds → RV K ρ H (.ref a) (.tup ds)
  | loc {a : Addr} {n : Nat} : ρ[n]? = some a → RV K ρ H (.ref a) (.loc n)
inductive RVs (K : PySem.W.Frag) (ρ : List Addr) (H : Hp) : List V → List D → Prop
  | nil : RVs K ρ H [] []
  | cons {v : V} {vs : List V} {d : D} {ds : List D} : RV K ρ H v d → RVs K ρ H vs ds → RVs K ρ H (v :: vs) (d :: ds)
end
section
variable {K : PySem.W.Frag} {ρ ρ' : List Addr} {H H' : Hp}
theorem RVs.length : ∀ {vs : List V} {ds : List D}, RVs K ρ H vs ds → vs.length = ds.length
  | _, _, .nil => rfl
  | _, _, .cons _ r => by rw [List.length_cons, List.length_cons, r.length]
theorem RVs.append : ∀ {vs ws : List V} {ds es : List D}, RVs K ρ H vs ds → RVs K ρ H ws es → RVs K ρ H (vs ++ ws) (ds ++ es)
  | _, _, _, _, .nil, r => r
  | _, _, _, _, .cons h t, r => .cons h (t.append r)
theorem RVs.get : ∀ {vs : List V} {ds : List D} {i : Nat} {d : D}, RVs K ρ H vs ds → ds[i]? = some d → ∃ v, vs[i]? = some v ∧ RV K ρ H v d
  | _, _, _, _, .nil, e => by simp at e
  | _, _, 0, _, .cons h _, e => by simp at e; subst e; exact ⟨_, rfl, h⟩
  | _, _, i + 1, _, .cons _ t, e => by
    obtain ⟨v, a, b⟩ := RVs.get (i := i) t (by simpa using e)
    exact ⟨v, by simpa using a, b⟩
theorem RVs.getV : ∀ {vs : List V} {ds : List D} {i : Nat} {v : V}, RVs K ρ H vs ds → vs[i]? = some v → ∃ d, ds[i]? = some d ∧ RV K ρ H v d
  | _, _, _, _, .nil, e => by simp at e
  | _, _, 0, _, .cons h _, e => by simp at e; subst e; exact ⟨_, rfl, h⟩
  | _, _, i + 1, _, .cons _ t, e => by
    obtain ⟨v, a, b⟩ := RVs.getV (i := i) t (by simpa using e)
    exact ⟨v, by simpa using a, b⟩
theorem RVs.take : ∀ {vs : List V} {ds : List D} (n : Nat), RVs K ρ H vs ds → RVs K ρ H (vs.take n) (ds.take n)
  | _, _, 0, _ => .nil
  | _, _, _ + 1, .nil => .nil
  | _, _, n + 1, .cons h t => .cons h (t.take n)
theorem RVs.drop : ∀ {vs : List V} {ds : List D} (n : Nat), RVs K ρ H vs ds → RVs K ρ H (vs.drop n) (ds.drop n)
  | _, _, 0, r => r
  | _, _, _ + 1, .nil => .nil
  | _, _, n + 1, .cons h t => t.drop n
theorem RVs.set {v : V} {d : D} (r : RV K ρ H v d) : ∀ {vs : List V} {ds : List D} (i : Nat), RVs K ρ H vs ds → RVs K ρ H (vs.set i v) (ds.set i d)
  | _, _, _, .nil => .nil
  | _, _, 0, .cons _ t => .cons r t
  | _, _, i + 1, .cons h t => .cons h (RVs.set r i t)
theorem RVs.eraseIdx : ∀ {vs : List V} {ds : List D} (i : Nat), RVs K ρ H vs ds → RVs K ρ H (vs.eraseIdx i) (ds.eraseIdx i)
  | _, _, _, .nil => .nil
  | _, _, 0, .cons _ t => t
  | _, _, i + 1, .cons h t => .cons h (RVs.eraseIdx i t)
theorem RVs.dropLast : ∀ {vs : List V} {ds : List D}, RVs K ρ H vs ds → RVs K ρ H vs.dropLast ds.dropLast
  | _, _, .nil => .nil
  | _, _, .cons _ .nil => .nil
  | _, _, .cons h (.cons g t) => .cons h (RVs.dropLast (.cons g t))
theorem RVs.reverse : ∀ {vs : List V} {ds : List D}, RVs K ρ H vs ds → RVs K ρ H vs.reverse ds.reverse
  | _, _, .nil => .nil
  | _, _, .cons h t => by rw [List.reverse_cons, List.reverse_cons]; exact (RVs.reverse t).append (.cons h .nil)
theorem RVs.map {α : Type} {f : α → V} {g : α → D} (h : ∀ a, RV K ρ H (f a) (g a)) : ∀ l : List α, RVs K ρ H (l.map f) (l.map g)
  | [] => .nil
  | a :: r => .cons (h a) (RVs.map h r)
mutual
theorem RV.mono (hp : ∀ (n : Nat) (a : Addr), ρ[n]? = some a → ρ'[n]? = some a) (ht : ∀ a vs, SqT K H a vs → SqT K H' a vs) : ∀ {v : V} {d : D}, RV K ρ H v d → RV K ρ' H' v d
  | _, _, .non => .non
  | _, _, .bl b => .bl b
  | _, _, .int i => .int i
  | _, _, .str x h1 h2 => .str x h1 h2
  | _, _, .tup h r => .tup (ht _ _ h) (RVs.mono hp ht r)
  | _, _, .loc h => .loc (hp _ _ h)
theorem RVs.mono (hp : ∀ (n : Nat) (a : Addr), ρ[n]? = some a → ρ'[n]? = some a) (ht : ∀ a vs, SqT K H a vs → SqT K H' a vs) : ∀ {v : List V} {d : List D}, RVs K ρ H v d → RVs K ρ' H' v d
  | _, _, .nil => .nil
  | _, _, .cons h r => .cons (RV.mono hp ht h) (RVs.mono hp ht r)
end
end

/-! ### stores -/
/-- a list that is only read -/
def SqR (K : PySem.W.Frag) (H : Hp) (a : Addr) (xs : List V) : Prop := (∃ o, H a = some (.frz o (.lst xs))) ∨
    ∃ (o : Obj) (its : Array Value) (n : Nat), K.lookup a = some o ∧ o.cls = .type "list" ∧ o.dict = none ∧ o.data = .seq its n ∧ its.size ≤ sizeLine ∧ Vals xs its.toList
theorem SqR.sq {K : PySem.W.Frag} {H : Hp} {a : Addr} {xs : List V} (h : SqR K H a xs) : SqL K H a xs := by
  rcases h with ⟨o, h⟩ | h
  · exact .inl (.inr ⟨o, h⟩)
  · exact .inr h
def RO (K : PySem.W.Frag) (ρ : List Addr) (H : Hp) (a : Addr) : O → Prop
  | .lst xs => ∃ vs, H a = some (.lst vs) ∧ RVs K ρ H vs xs
  | .ro xs => ∃ vs, SqR K H a vs ∧ RVs K ρ H vs xs
/-- the addresses that may be written -/
def Mt (ρ : List Addr) (s : S) (a : Addr) : Prop := ∃ (n : Nat) (xs : List D), s[n]? = some (.lst xs) ∧ ρ[n]? = some a
structure RS_ (K : PySem.W.Frag) (ρ : List Addr) (s : S) (H : Hp) : Prop where
  len : ρ.length = s.length
  at_ : ∀ (n : Nat) (o : O) (a : Addr), s[n]? = some o → ρ[n]? = some a → RO K ρ H a o
  inj : ∀ (n m : Nat) (xs ys : List D) (a : Addr), s[n]? = some (.lst xs) → s[m]? = some (.lst ys) → ρ[n]? = some a → ρ[m]? = some a → n = m
structure Ext (K : PySem.W.Frag) (ρ : List Addr) (s : S) (H : Hp) (ρ' : List Addr) (s' : S) (H' : Hp) : Prop where
  pre : ∀ (n : Nat) (a : Addr), ρ[n]? = some a → ρ'[n]? = some a
  new : ∀ a, Mt ρ' s' a → Mt ρ s a ∨ H a = none
  frame : ∀ a o, H a = some o → ¬ Mt ρ s a → H' a = some o
  dom : ∀ a, H' a = none → H a = none
  rep : RS_ K ρ' s' H'
section
variable {K : PySem.W.Frag} {ρ ρ' ρ'' : List Addr} {s s' s'' : S} {H H' H'' : Hp}
theorem RS_.mt (r : RS_ K ρ s H) {a : Addr} (h : Mt ρ s a) : ∃ vs, H a = some (.lst vs) := by
  obtain ⟨n, xs, h1, h2⟩ := h
  obtain ⟨vs, h3, _⟩ := r.at_ n _ a h1 h2
  exact ⟨vs, h3⟩
theorem Ext.refl (r : RS_ K ρ s H) : Ext K ρ s H ρ s H := ⟨fun _ _ h => h, fun _ h => .inl h, fun _ _ h _ => h, fun _ h => h, r⟩
theorem Ext.trans (x : Ext K ρ s H ρ' s' H') (y : Ext K ρ' s' H' ρ'' s'' H'') : Ext K ρ s H ρ'' s'' H'' where
  pre := fun n a h => y.pre n a (x.pre n a h)
  new := fun a h => by
    by_cases m : Mt ρ s a
    · exact .inl m
    · refine .inr ?_
      cases e : H a with
      | none => rfl
      | some o =>
        have e' := x.frame a o e m
        rcases y.new a h with q | q
        · rcases x.new a q with q | q
          · exact absurd q m
          · rw [e] at q; cases q
        · rw [e'] at q; cases q
  frame := fun a o e m => y.frame a o (x.frame a o e m) fun q => by
    rcases x.new a q with q | q
    · exact m q
    · rw [e] at q; cases q
  dom := fun a h => x.dom a (y.dom a h)
  rep := y.rep
/-- tuples stay -/
theorem Ext.tups (x : Ext K ρ s H ρ' s' H') (r : RS_ K ρ s H) {a : Addr} {vs : List V} (h : SqT K H a vs) : SqT K H' a vs := by
  have key : ∀ o, H a = some o → (∀ vs, o ≠ .lst vs) → H' a = some o := fun o e ne => x.frame a o e fun m => by
    obtain ⟨ws, q⟩ := r.mt m
    rw [e] at q; cases q; exact ne _ rfl
  rcases h with (h | ⟨o, h⟩) | h
  · exact .inl (.inl (key _ h fun _ z => by cases z))
  · exact .inl (.inr ⟨o, key _ h fun _ z => by cases z⟩)
  · exact .inr h
theorem Ext.rv (x : Ext K ρ s H ρ' s' H') (r : RS_ K ρ s H) {v : V} {d : D} (h : RV K ρ H v d) : RV K ρ' H' v d := RV.mono x.pre (fun _ _ => x.tups r) h
theorem Ext.rvs (x : Ext K ρ s H ρ' s' H') (r : RS_ K ρ s H) {v : List V} {d : List D} (h : RVs K ρ H v d) : RVs K ρ' H' v d := RVs.mono x.pre (fun _ _ => x.tups r) h
theorem upd_some {H : Hp} {p a : Addr} {o u : HO} (hp : H p = none) (h : H a = some o) : upd H p u a = some o := by
  rw [upd_ne (ne_of_none h hp)]; exact h
theorem upd_dom {H : Hp} {p a : Addr} {u : HO} (h : upd H p u a = none) : H a = none := by
  by_cases e : a = p
  · subst e; rw [upd_same] at h; cases h
  · rw [upd_ne e] at h; exact h
theorem RO.laid {p a : Addr} {u : HO} {o : O} (hp : H p = none) (h : RO K ρ H a o) (pre : ∀ (n : Nat) (a : Addr), ρ[n]? = some a → ρ'[n]? = some a) : RO K ρ' (upd H p u) a o := by
  have tu : ∀ a vs, SqT K H a vs → SqT K (upd H p u) a vs := fun a vs h => by
    rcases h with (h | ⟨o, h⟩) | h
    · exact .inl (.inl (upd_some hp h))
    · exact .inl (.inr ⟨o, upd_some hp h⟩)
    · exact .inr h
  cases o with
  | lst xs =>
    obtain ⟨vs, h1, h2⟩ := h
    exact ⟨vs, upd_some hp h1, RVs.mono pre tu h2⟩
  | ro xs =>
    obtain ⟨vs, h1, h2⟩ := h
    refine ⟨vs, ?_, RVs.mono pre tu h2⟩
    rcases h1 with ⟨o, h1⟩ | h1
    · exact .inl ⟨o, upd_some hp h1⟩
    · exact .inr h1
/-- a new object that the store does not hold -/
theorem Ext.laid (r : RS_ K ρ s H) {p : Addr} {u : HO} (hp : H p = none) : Ext K ρ s H ρ s (upd H p u) where
  pre := fun _ _ h => h
  new := fun _ h => .inl h
  frame := fun _ _ e _ => upd_some hp e
  dom := fun _ h => upd_dom h
  rep := ⟨r.len, fun n o a h1 h2 => (r.at_ n o a h1 h2).laid hp fun _ _ h => h, r.inj⟩
/-- a new list that the store holds -/
theorem Ext.alloc (r : RS_ K ρ s H) {p : Addr} {vs : List V} {xs : List D} (hp : H p = none) (hv : RVs K ρ H vs xs) : Ext K ρ s H (ρ ++ [p]) (s ++ [.lst xs]) (upd H p (.lst vs)) := by
  have pre : ∀ (n : Nat) (a : Addr), ρ[n]? = some a → (ρ ++ [p])[n]? = some a := fun n a h => by
    rw [List.getElem?_append_left (List.getElem?_eq_some_iff.mp h).1]; exact h
  have old : ∀ {n : Nat} {o : O}, (s ++ [O.lst xs])[n]? = some o → s[n]? = some o ∨ (n = s.length ∧ o = .lst xs) := fun {n o} h => by
    by_cases hn : n < s.length
    · rw [List.getElem?_append_left hn] at h; exact .inl h
    · rw [List.getElem?_append_right (by omega)] at h
      have : n - s.length = 0 := by
        have := (List.getElem?_eq_some_iff.mp h).1
        simp at this; omega
      rw [this] at h
      simp at h
      exact .inr ⟨by omega, h.symm⟩
  have adr : ∀ {n : Nat} {a : Addr}, (ρ ++ [p])[n]? = some a → n < s.length → ρ[n]? = some a := fun {n a} h hn => by
    rw [List.getElem?_append_left (by rw [r.len]; exact hn)] at h; exact h
  have adrN : ∀ {a : Addr}, (ρ ++ [p])[s.length]? = some a → a = p := fun {a} h => by
    rw [← r.len] at h
    simp at h; exact h.symm
  have lt : ∀ {n : Nat} {o : O}, s[n]? = some o → n < s.length := fun h => (List.getElem?_eq_some_iff.mp h).1
  refine ⟨pre, fun a h => ?_, fun _ _ e _ => upd_some hp e, fun _ h => upd_dom h, ⟨by simp [r.len], fun n o a h1 h2 => ?_, fun n m xs1 ys1 a h1 h2 h3 h4 => ?_⟩⟩
  · obtain ⟨n, ys, h1, h2⟩ := h
    rcases old h1 with h | ⟨rfl, _⟩
    · exact .inl ⟨n, ys, h, adr h2 (lt h)⟩
    · rw [adrN h2]; exact .inr hp
  · rcases old h1 with h | ⟨rfl, rfl⟩
    · exact (r.at_ n o a h (adr h2 (lt h))).laid hp pre
    · rw [adrN h2]
      refine ⟨vs, upd_same, RVs.mono pre (fun a vs h => ?_) hv⟩
      rcases h with (h | ⟨o, h⟩) | h
      · exact .inl (.inl (upd_some hp h))
      · exact .inl (.inr ⟨o, upd_some hp h⟩)
      · exact .inr h
  · rcases old h1 with g1 | ⟨rfl, _⟩ <;> rcases old h2 with g2 | ⟨rfl, _⟩
    · exact r.inj n m _ _ a g1 g2 (adr h3 (lt g1)) (adr h4 (lt g2))
    · have e := adrN h4
      obtain ⟨ws, q, _⟩ := r.at_ n _ a g1 (adr h3 (lt g1))
      rw [e, hp] at q; cases q
    · have e := adrN h3
      obtain ⟨ws, q, _⟩ := r.at_ m _ a g2 (adr h4 (lt g2))
      rw [e, hp] at q; cases q
    · rfl
/-- a list of the store is changed -/
theorem Ext.write (r : RS_ K ρ s H) {n : Nat} {a : Addr} {ys xs : List D} {vs : List V} (h1 : s[n]? = some (.lst ys)) (h2 : ρ[n]? = some a) (hv : RVs K ρ H vs xs) : Ext K ρ s H ρ (s.set n (.lst xs)) (upd H a (.lst vs)) := by
  obtain ⟨ws, hw, _⟩ := r.at_ n _ a h1 h2
  have lt : n < s.length := (List.getElem?_eq_some_iff.mp h1).1
  have tu : ∀ a' vs', SqT K H a' vs' → SqT K (upd H a (.lst vs)) a' vs' := fun a' vs' h => by
    have key : ∀ o, H a' = some o → (∀ vs, o ≠ .lst vs) → upd H a (.lst vs) a' = some o := fun o e ne => by
      rw [upd_ne]; exact e
      intro z; rw [z, hw] at e; cases e; exact ne _ rfl
    rcases h with (h | ⟨o, h⟩) | h
    · exact .inl (.inl (key _ h fun _ z => by cases z))
    · exact .inl (.inr ⟨o, key _ h fun _ z => by cases z⟩)
    · exact .inr h
  have getS : ∀ {m : Nat} {o : O}, (s.set n (.lst xs))[m]? = some o → (m = n ∧ o = .lst xs) ∨ (m ≠ n ∧ s[m]? = some o) := fun {m o} h => by
    by_cases e : m = n
    · subst e
      rw [List.getElem?_set_self lt] at h
      exact .inl ⟨rfl, (Option.some.inj h).symm⟩
    · rw [List.getElem?_set_ne (Ne.symm e)] at h
      exact .inr ⟨e, h⟩
  refine ⟨fun _ _ h => h, fun b ⟨m, zs, g1, g2⟩ => ?_, fun b o e m => ?_, fun _ h => upd_dom h, ⟨by simp [r.len], fun m o b g1 g2 => ?_, fun m k xs1 ys1 b g1 g2 g3 g4 => ?_⟩⟩
  · rcases getS g1 with ⟨rfl, e⟩ | ⟨e, g1⟩
    · exact .inl ⟨m, ys, h1, g2⟩
    · exact .inl ⟨m, zs, g1, g2⟩
  · rw [upd_ne]; exact e
    intro z; subst z; exact m ⟨n, ys, h1, h2⟩
  · rcases getS g1 with ⟨rfl, rfl⟩ | ⟨e, g1⟩
    · rw [h2] at g2; cases g2
      exact ⟨vs, upd_same, RVs.mono (fun _ _ h => h) tu hv⟩
    · have q := r.at_ m o b g1 g2
      cases o with
      | lst zs =>
        obtain ⟨us, q1, q2⟩ := q
        have nb : b ≠ a := fun z => by subst z; exact e (r.inj m n _ _ b g1 h1 g2 h2)
        exact ⟨us, by rw [upd_ne nb]; exact q1, RVs.mono (fun _ _ h => h) tu q2⟩
      | ro zs =>
        obtain ⟨us, q1, q2⟩ := q
        refine ⟨us, ?_, RVs.mono (fun _ _ h => h) tu q2⟩
        rcases q1 with ⟨ob, q1⟩ | q1
        · have nb : b ≠ a := fun z => by subst z; rw [hw] at q1; cases q1
          exact .inl ⟨ob, by rw [upd_ne nb]; exact q1⟩
        · exact .inr q1
  · rcases getS g1 with ⟨e1, _⟩ | ⟨_, f1⟩ <;> rcases getS g2 with ⟨e2, _⟩ | ⟨_, f2⟩
    · rw [e1, e2]
    · exact r.inj m k _ _ b (by rw [e1]; exact h1) f2 g3 g4
    · exact r.inj m k _ _ b f1 (by rw [e2]; exact h1) g3 g4
    · exact r.inj m k _ _ b f1 f2 g3 g4
/-- what a place shows -/
theorem RS_.lst (r : RS_ K ρ s H) {n : Nat} {a : Addr} {xs : List D} (h : S.lst s n = some xs) (h2 : ρ[n]? = some a) : ∃ vs, SqL K H a vs ∧ RVs K ρ H vs xs := by
  unfold S.lst at h
  cases e : s[n]? with
  | none => rw [e] at h; cases h
  | some o =>
    rw [e] at h
    have q := r.at_ n o a e h2
    cases o with
    | lst ys => cases h; obtain ⟨vs, q1, q2⟩ := q; exact ⟨vs, SqL.of q1, q2⟩
    | ro ys => cases h; obtain ⟨vs, q1, q2⟩ := q; exact ⟨vs, q1.sq, q2⟩
theorem RS_.mlst (r : RS_ K ρ s H) {n : Nat} {a : Addr} {xs : List D} (h : S.mlst s n = some xs) (h2 : ρ[n]? = some a) : s[n]? = some (.lst xs) ∧ ∃ vs, H a = some (.lst vs) ∧ RVs K ρ H vs xs := by
  unfold S.mlst at h
  cases e : s[n]? with
  | none => rw [e] at h; cases h
  | some o =>
    rw [e] at h
    have q := r.at_ n o a e h2
    cases o with
    | lst ys => cases h; obtain ⟨vs, q1, q2⟩ := q; exact ⟨rfl, vs, q1, q2⟩
    | ro ys => cases h
theorem RV.locs {a : Addr} {n : Nat} (h : RV K ρ H (.ref a) (.loc n)) : ρ[n]? = some a := by cases h; assumption
end

/-! ### frames -/
def REnv (K : PySem.W.Frag) (ρ : List Addr) (H : Hp) (σ : L2.St) (η : Env) : Prop := σ.length = η.length ∧ ∀ (i : Nat) (d : D), getV i η = some d → ∃ v, σ[i]? = some (some v) ∧ RV K ρ H v d
theorem REnv.mono {K : PySem.W.Frag} {ρ ρ' : List Addr} {s s' : S} {H H' : Hp} {σ : L2.St} {η : Env} (h : REnv K ρ H σ η) (x : Ext K ρ s H ρ' s' H') (r : RS_ K ρ s H) : REnv K ρ' H' σ η :=
  ⟨h.1, fun i d e => let ⟨v, h1, h2⟩ := h.2 i d e; ⟨v, h1, x.rv r h2⟩⟩
theorem getV_setV : ∀ {i j : Nat} {v : Option D} {η : Env} {d : D}, getV j (setV i v η) = some d → (j = i ∧ v = some d) ∨ (j ≠ i ∧ getV j η = some d)
  | _, _, _, [], _, h => by simp at h
  | 0, 0, v, x :: r, d, h => by simp at h; exact .inl ⟨rfl, h⟩
  | 0, j + 1, v, x :: r, d, h => by simp at h; exact .inr ⟨by omega, by simpa using h⟩
  | i + 1, 0, v, x :: r, d, h => by simp at h; exact .inr ⟨by omega, by simpa using h⟩
  | i + 1, j + 1, v, x :: r, d, h => by
    simp only [setV, getV] at h
    rcases getV_setV h with ⟨e, q⟩ | ⟨e, q⟩
    · exact .inl ⟨by omega, q⟩
    · exact .inr ⟨by omega, by simpa only [getV] using q⟩
theorem setV_len : ∀ {i : Nat} {v : Option D} {η : Env}, (setV i v η).length = η.length
  | _, _, [] => by simp
  | 0, _, _ :: _ => by simp
  | i + 1, v, x :: r => by simp only [setV, List.length_cons, setV_len]
theorem getV_lt : ∀ {i : Nat} {η : Env} {d : D}, getV i η = some d → i < η.length
  | 0, _ :: _, _, _ => by simp
  | i + 1, _ :: r, d, h => by simp only [getV] at h; have := getV_lt h; simp; omega
  | 0, [], _, h => by simp at h
  | _ + 1, [], _, h => by simp at h
theorem REnv.set {K : PySem.W.Frag} {ρ : List Addr} {H : Hp} {σ : L2.St} {η : Env} {i : Nat} {v : V} {d : D} (h : REnv K ρ H σ η) (r : RV K ρ H v d) : REnv K ρ H (σ.set i (some v)) (setV i (some d) η) := by
  refine ⟨by rw [List.length_set, setV_len]; exact h.1, fun j e g => ?_⟩
  rcases getV_setV g with ⟨rfl, q⟩ | ⟨ne, q⟩
  · cases q
    have hl : j < σ.length := by
      have := getV_lt g
      rw [setV_len] at this
      rw [h.1]; exact this
    exact ⟨v, by rw [List.getElem?_set_self hl], r⟩
  · obtain ⟨w, h1, h2⟩ := h.2 j e q
    exact ⟨w, by rw [List.getElem?_set_ne (Ne.symm ne)]; exact h1, h2⟩
theorem REnv.forget {K : PySem.W.Frag} {ρ : List Addr} {H : Hp} {σ : L2.St} {η : Env} {i : Nat} (h : REnv K ρ H σ η) : REnv K ρ H (σ.set i none) (setV i none η) := by
  refine ⟨by rw [List.length_set, setV_len]; exact h.1, fun j e g => ?_⟩
  rcases getV_setV g with ⟨rfl, q⟩ | ⟨ne, q⟩
  · cases q
  · obtain ⟨w, h1, h2⟩ := h.2 j e q
    exact ⟨w, by rw [List.getElem?_set_ne (Ne.symm ne)]; exact h1, h2⟩
theorem REnv.wipe {K : PySem.W.Frag} {ρ : List Addr} {H : Hp} {σ : L2.St} {η : Env} (h : REnv K ρ H σ η) : ∀ is : List Nat, REnv K ρ H (L2.wipe σ is) (wipeV is η)
  | [] => h
  | i :: is => by unfold L2.wipe wipeV; exact (REnv.wipe h is).forget

/-! ### readings by the evaluator -/
def AnsD (K : PySem.W.Frag) (ρ : List Addr) (s : S) (H : Hp) (Q : VK) : R D → Prop
  | .ok d s' => ∀ (v : V) (ρ' : List Addr) (H' : Hp), Ext K ρ s H ρ' s' H' → RV K ρ' H' v d → Q v H'
  | _ => False
def AnsDs (K : PySem.W.Frag) (ρ : List Addr) (s : S) (H : Hp) (Q : List V → Hp → Prop) : R (List D) → Prop
  | .ok ds s' => ∀ (vs : List V) (ρ' : List Addr) (H' : Hp), Ext K ρ s H ρ' s' H' → RVs K ρ' H' vs ds → Q vs H'
  | _ => False
def AnsB (K : PySem.W.Frag) (ρ : List Addr) (s : S) (H : Hp) (Q : Bool → Hp → Prop) : R D → Prop
  | .ok d s' => ∃ k, truth s' d = some k ∧ ∀ (ρ' : List Addr) (H' : Hp), Ext K ρ s H ρ' s' H' → Q k H'
  | _ => False
def tE (K : PySem.W.Frag) (C : Ctx) (e : E) : TE := fun σ H Q => ∃ ρ s η, RS_ K ρ s H ∧ REnv K ρ H σ η ∧ AnsD K ρ s H Q (evE C e η s)
def tEs (K : PySem.W.Frag) (C : Ctx) (es : Es) : TA := fun σ H Q => ∃ ρ s η, RS_ K ρ s H ∧ REnv K ρ H σ η ∧ AnsDs K ρ s H Q (evEs C es η s)
def tT (K : PySem.W.Frag) (C : Ctx) (e : E) : TT := fun σ H Q => ∃ ρ s η, RS_ K ρ s H ∧ REnv K ρ H σ η ∧ AnsB K ρ s H Q (evE C e η s)
section
variable {K : PySem.W.Frag} {C : Ctx} {ρ ρ' : List Addr} {s s' : S} {H H' : Hp} {σ : L2.St} {η : Env}
theorem AnsD.ext {Q : VK} {r : R D} (h : AnsD K ρ s H Q r) (x : Ext K ρ s H ρ' s' H') : AnsD K ρ' s' H' Q r := by
  cases r with
  | ok d t => exact fun v ρ2 H2 y rv => h v ρ2 H2 (x.trans y) rv
  | exn _ _ => exact h
  | bad => exact h
theorem AnsDs.ext {Q : List V → Hp → Prop} {r : R (List D)} (h : AnsDs K ρ s H Q r) (x : Ext K ρ s H ρ' s' H') : AnsDs K ρ' s' H' Q r := by
  cases r with
  | ok d t => exact fun v ρ2 H2 y rv => h v ρ2 H2 (x.trans y) rv
  | exn _ _ => exact h
  | bad => exact h
theorem AnsB.ext {Q : Bool → Hp → Prop} {r : R D} (h : AnsB K ρ s H Q r) (x : Ext K ρ s H ρ' s' H') : AnsB K ρ' s' H' Q r := by
  cases r with
  | ok d t => obtain ⟨k, e, h⟩ := h; exact ⟨k, e, fun ρ2 H2 y => h ρ2 H2 (x.trans y)⟩
  | exn _ _ => exact h
  | bad => exact h
/-- a part is evaluated, then the rest -/
theorem tE.step {e : E} {f : D → S → R D} {Q : VK} {P : V → Hp → Prop} (r : RS_ K ρ s H) (en : REnv K ρ H σ η) (h : AnsD K ρ s H Q ((evE C e η s).bind f))
    (k : ∀ (x : V) (d : D) (s1 : S) (ρ1 : List Addr) (H1 : Hp), Ext K ρ s H ρ1 s1 H1 → RS_ K ρ1 s1 H1 → REnv K ρ1 H1 σ η → RV K ρ1 H1 x d → AnsD K ρ1 s1 H1 Q (f d s1) → P x H1) : tE K C e σ H P := by
  refine ⟨ρ, s, η, r, en, ?_⟩
  cases e1 : evE C e η s with
  | ok d s1 =>
    rw [e1] at h
    exact fun v ρ1 H1 x rv => k v d s1 ρ1 H1 x x.rep (en.mono x r) rv (AnsD.ext h x)
  | exn _ _ => rw [e1] at h; exact h
  | bad => rw [e1] at h; exact h
theorem tE.stepB {e : E} {f : D → S → R D} {Q : Bool → Hp → Prop} {P : V → Hp → Prop} (r : RS_ K ρ s H) (en : REnv K ρ H σ η) (h : AnsB K ρ s H Q ((evE C e η s).bind f))
    (k : ∀ (x : V) (d : D) (s1 : S) (ρ1 : List Addr) (H1 : Hp), Ext K ρ s H ρ1 s1 H1 → RS_ K ρ1 s1 H1 → REnv K ρ1 H1 σ η → RV K ρ1 H1 x d → AnsB K ρ1 s1 H1 Q (f d s1) → P x H1) : tE K C e σ H P := by
  refine ⟨ρ, s, η, r, en, ?_⟩
  cases e1 : evE C e η s with
  | ok d s1 =>
    rw [e1] at h
    exact fun v ρ1 H1 x rv => k v d s1 ρ1 H1 x x.rep (en.mono x r) rv (AnsB.ext h x)
  | exn _ _ => rw [e1] at h; exact h
  | bad => rw [e1] at h; exact h
end
theorem PE.imp {X : Cx} {e : Expr} {t t' : TE} (h : PE X e t) (f : ∀ σ H Q, t' σ H Q → t σ H Q) : PE X e t' := ⟨fun pins s σ H Q I q => h.run pins s σ H Q I (f σ H Q q)⟩
theorem PT.imp {X : Cx} {e : Expr} {t t' : TT} (h : PT X e t) (f : ∀ σ H Q, t' σ H Q → t σ H Q) : PT X e t' := ⟨fun pins s σ H Q I q => h.run pins s σ H Q I (f σ H Q q)⟩
theorem PA.imp {X : Cx} {e : List Expr} {t t' : TA} (h : PA X e t) (f : ∀ σ H Q, t' σ H Q → t σ H Q) : PA X e t' := ⟨fun pos pins s σ H Q I q => h.run pos pins s σ H Q I (f σ H Q q)⟩
end PX
end
section
/-! PX, soundness 2: operators and built-ins on values -/
namespace PX
open PySem PySem.Spec PyProof.Rows L2

def rD1 (K : PySem.W.Frag) (f : D → S → R D) : V → Hp → VK → Prop := fun x H Q => ∃ ρ s d, RS_ K ρ s H ∧ RV K ρ H x d ∧ AnsD K ρ s H Q (f d s)
def rD2 (K : PySem.W.Frag) (f : D → D → S → R D) : R2 := fun x y H Q => ∃ ρ s d e, RS_ K ρ s H ∧ RV K ρ H x d ∧ RV K ρ H y e ∧ AnsD K ρ s H Q (f d e s)
def rDs (K : PySem.W.Frag) (f : List D → S → R D) : List V → Hp → VK → Prop := fun xs H Q => ∃ ρ s ds, RS_ K ρ s H ∧ RVs K ρ H xs ds ∧ AnsD K ρ s H Q (f ds s)

theorem OpR.imp {X : Cx} {f : Value → Value → Sem Value} {r r' : R2} (h : OpR X f r) (g : ∀ x y H Q, r' x y H Q → r x y H Q) : OpR X f r' :=
  fun pins s σ H x y v u Q I rx ry q => h pins s σ H x y v u Q I rx ry (g x y H Q q)
theorem CallR.imp {X : Cx} {f : Value} {r r' : List V → Hp → VK → Prop} (h : CallR X f r) (g : ∀ xs H Q, r' xs H Q → r xs H Q) : CallR X f r' :=
  fun pins s σ H xs us Q I rx q => h pins s σ H xs us Q I rx (g xs H Q q)
theorem MtR.imp {X : Cx} {f : String} {r r' : V → List V → Hp → VK → Prop} (h : MtR X f r) (g : ∀ x xs H Q, r' x xs H Q → r x xs H Q) : MtR X f r' :=
  fun pins s σ H x xs v us Q I rx ry q => h pins s σ H x xs v us Q I rx ry (g x xs H Q q)
theorem UnR.imp {X : Cx} {f : Value → Sem Value} {r r' : V → Hp → VK → Prop} (h : UnR X f r) (g : ∀ x H Q, r' x H Q → r x H Q) : UnR X f r' :=
  fun pins s σ H x v Q I rx q => h pins s σ H x v Q I rx (g x H Q q)

section
variable {K : PySem.W.Frag} {ρ : List Addr} {s : S} {H : Hp} {Q : VK}
/-- an answer that changes nothing -/
theorem AnsD.same {d : D} {v : V} (h : AnsD K ρ s H Q (.ok d s)) (r : RS_ K ρ s H) (rv : RV K ρ H v d) : Q v H := h v ρ H (Ext.refl r) rv
/-- a new tuple -/
theorem AnsD.tup {ds : List D} {vs : List V} {p : Addr} (h : AnsD K ρ s H Q (.ok (.tup ds) s)) (r : RS_ K ρ s H) (rv : RVs K ρ H vs ds) (hp : H p = none) : Q (.ref p) (upd H p (.tup vs)) := by
  have x := Ext.laid (u := .tup vs) r hp
  exact h _ ρ _ x (.tup (.inl (.inl upd_same)) (x.rvs r rv))
/-- a new list -/
theorem AnsD.lst {ds : List D} {vs : List V} {p : Addr} (h : AnsD K ρ s H Q (alloc ds s)) (r : RS_ K ρ s H) (rv : RVs K ρ H vs ds) (hp : H p = none) : Q (.ref p) (upd H p (.lst vs)) := by
  refine h _ (ρ ++ [p]) _ (Ext.alloc r hp rv) (.loc ?_)
  rw [← r.len]; simp
theorem RV.int_inv {v : V} {i : Int} (h : RV K ρ H v (.int i)) : v = .int i := by cases h; rfl
theorem RV.bl_inv {v : V} {i : Bool} (h : RV K ρ H v (.bl i)) : v = .bl i := by cases h; rfl
theorem RV.non_inv {v : V} (h : RV K ρ H v .non) : v = .non := by cases h; rfl
theorem RV.str_inv {v : V} {c : List Nat} (h : RV K ρ H v (.str c)) : ∃ x : PySem.Str, v = .str x ∧ x.cps.toList = c ∧ PyData.strOk x = true ∧ x.length ≤ sizeLine := by
  cases h with
  | str x h1 h2 => exact ⟨x, rfl, rfl, h1, h2⟩
theorem RV.tup_inv {v : V} {ds : List D} (h : RV K ρ H v (.tup ds)) : ∃ a vs, v = .ref a ∧ SqT K H a vs ∧ RVs K ρ H vs ds := by
  cases h with
  | tup h1 h2 => exact ⟨_, _, rfl, h1, h2⟩
theorem RV.loc_inv {v : V} {n : Nat} (h : RV K ρ H v (.loc n)) : ∃ a, v = .ref a ∧ ρ[n]? = some a := by
  cases h with
  | loc h => exact ⟨_, rfl, h⟩
/-- a text by its signs -/
theorem RV.of_str {c : List Nat} (h1 : c.all (· < 0x110000) = true) (h2 : c.length ≤ sizeLine) : RV K ρ H (.str ⟨c.toArray⟩) (.str c) := by
  have := RV.str (K := K) (ρ := ρ) (H := H) ⟨c.toArray⟩ (by unfold PyData.strOk; simpa using h1) (by show c.toArray.size ≤ _; simpa using h2)
  simpa using this
theorem strOk_list {x : PySem.Str} (h : PyData.strOk x = true) : x.cps.toList.all (· < 0x110000) = true := by
  unfold PyData.strOk at h; simpa using h
theorem str_len (x : PySem.Str) : x.length = x.cps.toList.length := by show x.cps.size = _; simp
theorem big_eq : big = sizeLine := by rw [sizeLine_eq]; rfl
end

/-! ### operators -/
theorem wide_lt_pow {i : Int} (h1 : -wide < i) (h2 : i < wide) : i.natAbs < 2 ^ 8192 := by
  have e : wide = ((2 ^ 8192 : Nat) : Int) := by unfold wide; norm_cast
  rw [e] at h1 h2
  generalize 2 ^ 8192 = n at *
  omega
theorem mul_ok {i j : Int} (h : mulOk i j = true) : CMul i j ∨ CMulW i j := by
  unfold mulOk small64 smallW at h
  simp only [Bool.or_eq_true, Bool.and_eq_true, decide_eq_true_eq] at h
  rcases h with (h | h) | ⟨h, g⟩
  · exact .inl (.inl h)
  · exact .inl (.inr h)
  · exact .inr (wide_mul (wide_lt_pow h.1 h.2) (wide_lt_pow g.1 g.2) (by decide) (by decide) (by decide))
section
variable {X : Cx}
theorem op_add_ : OpR X (binaryOp .Add) (rD2 X.K (bin .add)) := by
  refine OpR.imp (OpR.or (OpR.or (OpR.or op_add op_add_str) op_catA) op_cat) fun x y H Q h => ?_
  obtain ⟨ρ, s, d, e, r, hx, hy, h⟩ := h
  cases d with
  | int i =>
    cases e with
    | int j => cases hx; cases hy; exact .inl (.inl (.inl ⟨i, j, rfl, rfl, h.same r (.int _)⟩))
    | _ => exact h.elim
  | str a =>
    cases e with
    | str b =>
      obtain ⟨x', rfl, rfl, o1, l1⟩ := hx.str_inv
      obtain ⟨y', rfl, rfl, o2, l2⟩ := hy.str_inv
      simp only [bin] at h
      split at h
      · rename_i hl
        rw [big_eq, ← str_len, ← str_len] at hl
        refine .inl (.inl (.inr ⟨x', y', rfl, rfl, hl, h.same r ?_⟩))
        have q := RV.of_str (K := X.K) (ρ := ρ) (H := H) (c := x'.cps.toList ++ y'.cps.toList) (by rw [List.all_append, strOk_list o1, strOk_list o2]; rfl) (by rw [List.length_append, ← str_len, ← str_len]; exact hl)
        have e : x' ++ y' = (⟨(x'.cps.toList ++ y'.cps.toList).toArray⟩ : PySem.Str) := by
          show (⟨x'.cps ++ y'.cps⟩ : PySem.Str) = _
          congr 1
          apply Array.toList_inj.mp
          simp
        rw [e]; exact q
      · exact h.elim
    | _ => exact h.elim
  | tup a =>
    cases e with
    | tup b =>
      obtain ⟨p, vs, rfl, hp, rp⟩ := hx.tup_inv
      obtain ⟨q, ws, rfl, hq, rq⟩ := hy.tup_inv
      simp only [bin] at h
      split at h
      · rename_i hl
        refine .inl (.inr ⟨p, q, vs, ws, rfl, rfl, hp, hq, by rw [rp.length, rq.length, ← big_eq]; exact hl, fun e => ?_, fun _ e => ?_, fun _ _ t ht => h.tup r (rp.append rq) ht⟩)
        · subst e
          cases rp
          exact h.same r hy
        · subst e
          cases rq
          rw [List.append_nil] at h
          exact h.same r hx
      · exact h.elim
    | _ => exact h.elim
  | loc m =>
    cases e with
    | loc n =>
      simp only [bin] at h
      obtain ⟨p, rfl, hp⟩ := hx.loc_inv
      obtain ⟨q, rfl, hq⟩ := hy.loc_inv
      split at h
      · rename_i a b e1 e2
        split at h
        · rename_i hl
          obtain ⟨_, vs, h1, r1⟩ := r.mlst e1 hp
          obtain ⟨_, ws, h2, r2⟩ := r.mlst e2 hq
          exact .inr ⟨p, q, vs, ws, rfl, rfl, h1, h2, by rw [r1.length, r2.length, ← big_eq]; exact hl, fun t ht => h.lst r (r1.append r2) ht⟩
        · exact h.elim
      · exact h.elim
    | _ => exact h.elim
  | _ => exact h.elim
theorem op_sub_ : OpR X (binaryOp .Sub) (rD2 X.K (bin .sub)) := by
  refine OpR.imp op_sub fun x y H Q h => ?_
  obtain ⟨ρ, s, d, e, r, hx, hy, h⟩ := h
  cases d with
  | int i =>
    cases e with
    | int j => cases hx; cases hy; exact ⟨i, j, rfl, rfl, h.same r (.int _)⟩
    | _ => exact h.elim
  | _ => exact h.elim
theorem op_fdiv_ : OpR X (binaryOp .FloorDiv) (rD2 X.K (bin .fdiv)) := by
  refine OpR.imp op_fdivW fun x y H Q h => ?_
  obtain ⟨ρ, s, d, e, r, hx, hy, h⟩ := h
  cases d with
  | int i =>
    cases e with
    | int j =>
      cases hx; cases hy
      simp only [bin] at h
      split at h
      · rename_i hl
        refine ⟨i, j, rfl, rfl, ?_, h.same r (.int _)⟩
        exact wide_div hl.1 (wide_lt_pow (Int.lt_trans (by unfold wide; decide) hl.1) hl.2) (by decide) (by decide)
      · exact h.elim
    | _ => exact h.elim
  | _ => exact h.elim
theorem op_mod_ : OpR X (binaryOp .Mod) (rD2 X.K (bin .mod)) := by
  refine OpR.imp op_modN fun x y H Q h => ?_
  obtain ⟨ρ, s, d, e, r, hx, hy, h⟩ := h
  cases d with
  | int i =>
    cases e with
    | int j =>
      cases hx; cases hy
      simp only [bin] at h
      split at h
      · rename_i hl
        refine ⟨i, j, rfl, rfl, by omega, ?_⟩
        show Q (.int (i.fmod j)) H
        rw [Int.fmod_eq_emod_of_nonneg i (by omega : (0 : Int) ≤ j)]
        exact h.same r (.int _)
      · exact h.elim
    | _ => exact h.elim
  | _ => exact h.elim
theorem op_shr_ : OpR X (binaryOp .RShift) (rD2 X.K (bin .shr)) := by
  refine OpR.imp op_shr fun x y H Q h => ?_
  obtain ⟨ρ, s, d, e, r, hx, hy, h⟩ := h
  cases d with
  | int i =>
    cases e with
    | int j =>
      cases hx; cases hy
      simp only [bin] at h
      split at h
      · rename_i hl
        exact ⟨i, j, rfl, rfl, hl, h.same r (.int _)⟩
      · exact h.elim
    | _ => exact h.elim
  | _ => exact h.elim
theorem un_neg_ : UnR X (unaryOp .USub) (rD1 X.K fun d s => R.opt (negD d) s) := by
  refine UnR.imp un_neg fun x H Q h => ?_
  obtain ⟨ρ, s, d, r, hx, h⟩ := h
  cases d with
  | int i => cases hx; exact ⟨i, rfl, h.same r (.int _)⟩
  | _ => exact h.elim

/-! ### comparisons -/
mutual
/-- data without places, as the library says it -/
def toPy : D → PyData
  | .non => .none
  | .bl b => .bool b
  | .int i => .int i
  | .str x => .str ⟨x.toArray⟩
  | .tup ds => .tuple (toPys ds)
  | .loc _ => .none
def toPys : List D → List PyData
  | [] => []
  | d :: ds => toPy d :: toPys ds
end
section
variable {K : PySem.W.Frag} {ρ : List Addr} {s : S} {H : Hp} {Q : VK}
mutual
theorem dp_of : ∀ {n : Nat} {v : V} {d : D}, okN n d = true → RV K ρ H v d → Dp K H v (toPy d)
  | _, _, _, _, .non => .non
  | _, _, _, _, .bl b => .bl b
  | _, _, _, _, .int i => .int i
  | _, _, _, _, .str x _ _ => by simp only [toPy]; exact .str x
  | 0, _, _, h, .tup _ _ => by simp [okN] at h
  | n + 1, _, _, h, .tup h1 h2 => by simp only [okN] at h; simp only [toPy]; exact .tup h1 (dps_of h h2)
  | _, _, _, h, .loc _ => by simp [okN] at h
theorem dps_of : ∀ {n : Nat} {v : List V} {d : List D}, okNs n d = true → RVs K ρ H v d → DpAll K H v (toPys d)
  | _, _, _, _, .nil => by simp only [toPys]; exact .nil
  | n, _, _, h, .cons h1 h2 => by
    simp only [okNs, Bool.and_eq_true] at h
    simp only [toPys]
    exact .cons (dp_of h.1 h1) (dps_of h.2 h2)
end
mutual
theorem depth_of : ∀ {n : Nat} {d : D}, okN n d = true → (toPy d).depth ≤ n
  | _, .non, _ => by simp [toPy, PyData.depth]
  | _, .bl b, _ => by simp [toPy, PyData.depth]
  | _, .int i, _ => by simp [toPy, PyData.depth]
  | _, .str x, _ => by simp [toPy, PyData.depth]
  | 0, .tup _, h => by simp [okN] at h
  | n + 1, .tup ds, h => by
    simp only [okN] at h
    simp only [toPy, PyData.depth]
    exact Nat.succ_le_succ (depths_of h)
  | _, .loc _, h => by simp [okN] at h
theorem depths_of : ∀ {n : Nat} {d : List D}, okNs n d = true → PyData.depthAll (toPys d) ≤ n
  | _, [], _ => by simp [toPys, PyData.depthAll]
  | n, d :: ds, h => by
    simp only [okNs, Bool.and_eq_true] at h
    simp only [toPys, PyData.depthAll]
    exact Nat.max_le.mpr ⟨depth_of h.1, depths_of h.2⟩
end
mutual
theorem lay_of : ∀ {n : Nat} {v : V} {d : D}, okN n d = true → RV K ρ H v d → (toPy d).canLay0 = true
  | _, _, _, _, .non => rfl
  | _, _, _, _, .bl b => rfl
  | _, _, _, _, .int i => rfl
  | _, _, _, _, .str x h _ => by simp only [toPy, PyData.canLay0]; exact h
  | 0, _, _, h, .tup _ _ => by simp [okN] at h
  | n + 1, _, _, h, .tup h1 h2 => by simp only [okN] at h; simp only [toPy, PyData.canLay0]; exact lays_of h h2
  | _, _, _, h, .loc _ => by simp [okN] at h
theorem lays_of : ∀ {n : Nat} {v : List V} {d : List D}, okNs n d = true → RVs K ρ H v d → PyData.canLayAll0 (toPys d) = true
  | _, _, _, _, .nil => rfl
  | n, _, _, h, .cons h1 h2 => by
    simp only [okNs, Bool.and_eq_true] at h
    simp only [toPys, PyData.canLayAll0, lay_of h.1 h1, lays_of h.2 h2, Bool.and_self]
end
mutual
theorem eqv_of : ∀ {n m : Nat} {a b : D}, okN n a = true → okN m b = true → PyData.eqv (toPy a) (toPy b) = eqv a b
  | n, m, .tup xs, .tup ys, h, g => by
    cases n with
    | zero => simp [okN] at h
    | succ n =>
      cases m with
      | zero => simp [okN] at g
      | succ m =>
        simp only [okN] at h g
        simp only [toPy, PyData.eqv, eqv]
        exact eqvs_of h g
  | _, _, .str x, .str y, _, _ => by
    simp only [toPy, PyData.eqv, eqv]
    by_cases e : x = y
    · subst e; simp
    · have : ¬ (⟨x.toArray⟩ : PySem.Str) = ⟨y.toArray⟩ := fun q => e (by have := congrArg (fun z : PySem.Str => z.cps.toList) q; simpa using this)
      rw [beq_eq_false_iff_ne.mpr e, beq_eq_false_iff_ne.mpr this]
  | _, _, .loc _, _, h, _ => by simp [okN] at h
  | _, _, _, .loc _, _, g => by simp [okN] at g
  | _, _, .non, .non, _, _ | _, _, .non, .bl _, _, _ | _, _, .non, .int _, _, _ | _, _, .non, .str _, _, _ | _, _, .non, .tup _, _, _ => by simp [toPy, PyData.eqv, PX.eqv]
  | _, _, .bl _, .non, _, _ | _, _, .bl _, .bl _, _, _ | _, _, .bl _, .int _, _, _ | _, _, .bl _, .str _, _, _ | _, _, .bl _, .tup _, _, _ => by simp [toPy, PyData.eqv, PX.eqv]
  | _, _, .int _, .non, _, _ | _, _, .int _, .bl _, _, _ | _, _, .int _, .int _, _, _ | _, _, .int _, .str _, _, _ | _, _, .int _, .tup _, _, _ => by simp [toPy, PyData.eqv, PX.eqv]
  | _, _, .str _, .non, _, _ | _, _, .str _, .bl _, _, _ | _, _, .str _, .int _, _, _ | _, _, .str _, .tup _, _, _ => by simp [toPy, PyData.eqv, PX.eqv]
  | _, _, .tup _, .non, _, _ | _, _, .tup _, .bl _, _, _ | _, _, .tup _, .int _, _, _ | _, _, .tup _, .str _, _, _ => by simp [toPy, PyData.eqv, PX.eqv]
theorem eqvs_of : ∀ {n m : Nat} {a b : List D}, okNs n a = true → okNs m b = true → PyData.eqvAll (toPys a) (toPys b) = eqvs a b
  | _, _, [], [], _, _ => rfl
  | _, _, [], _ :: _, _, _ => rfl
  | _, _, _ :: _, [], _, _ => rfl
  | n, m, x :: xs, y :: ys, h, g => by
    simp only [okNs, Bool.and_eq_true] at h g
    simp only [toPys, PyData.eqvAll, eqvs]
    rw [eqv_of h.1 g.1, eqvs_of h.2 g.2]
end
theorem shaped_of {n : Nat} (hn : n ≤ 64) {v : V} {d : D} (h : okN n d = true) (r : RV K ρ H v d) : SeqAt.shaped (toPy d) = true := by
  unfold SeqAt.shaped
  rw [lay_of h r, Bool.true_and]
  exact decide_eq_true (Nat.le_trans (depth_of h) hn)
/-- data that may be a list's place, looked up -/
theorem eqD_dp (r : RS_ K ρ s H) {x y : V} {d e : D} {k : Bool} (hx : RV K ρ H x d) (hy : RV K ρ H y e) (h : eqD s d e = some k) :
    ∃ a b, Dp K H x a ∧ Dp K H y b ∧ SeqAt.shaped a = true ∧ SeqAt.shaped b = true ∧ PyData.eqv a b = k := by
  have flat : ∀ {d e : D}, RV K ρ H x d → RV K ρ H y e → (if ok d && ok e then some (eqv d e) else none) = some k → ∃ a b, Dp K H x a ∧ Dp K H y b ∧ SeqAt.shaped a = true ∧ SeqAt.shaped b = true ∧ PyData.eqv a b = k := fun {d e} hx hy h => by
    split at h
    · rename_i c
      simp only [Bool.and_eq_true, ok] at c
      cases h
      exact ⟨_, _, dp_of c.1 hx, dp_of c.2 hy, shaped_of (by decide) c.1 hx, shaped_of (by decide) c.2 hy, eqv_of c.1 c.2⟩
    · cases h
  have lst : ∀ {n : Nat} {a : Addr} {xs : List D}, S.lst s n = some xs → ρ[n]? = some a → okNs maxDepth xs = true → Dp K H (.ref a) (.list (toPys xs)) ∧ SeqAt.shaped (.list (toPys xs)) = true := fun {n a xs} e h c => by
    obtain ⟨vs, h1, h2⟩ := r.lst e h
    refine ⟨.lst h1 (dps_of c h2), ?_⟩
    unfold SeqAt.shaped
    have : (PyData.list (toPys xs)).canLay0 = true := by simp only [PyData.canLay0]; exact lays_of c h2
    rw [this, Bool.true_and]
    refine decide_eq_true ?_
    simp only [PyData.depth]
    have := depths_of c
    have e : maxDepth = 40 := rfl
    omega
  cases d with
  | loc m =>
    obtain ⟨p, rfl, hp⟩ := hx.loc_inv
    cases e with
    | loc n =>
      obtain ⟨q, rfl, hq⟩ := hy.loc_inv
      simp only [eqD] at h
      split at h
      · rename_i xs ys e1 e2
        split at h
        · rename_i c
          simp only [Bool.and_eq_true] at c
          cases h
          obtain ⟨d1, s1⟩ := lst e1 hp c.1
          obtain ⟨d2, s2⟩ := lst e2 hq c.2
          exact ⟨_, _, d1, d2, s1, s2, by simp only [PyData.eqv]; exact eqvs_of c.1 c.2⟩
        · cases h
      · cases h
    | _ =>
      simp only [eqD] at h
      split at h
      · rename_i xs e1
        split at h
        · rename_i c
          simp only [Bool.and_eq_true, ok] at c
          cases h
          obtain ⟨d1, s1⟩ := lst e1 hp c.1
          exact ⟨_, _, d1, dp_of c.2 hy, s1, shaped_of (by decide) c.2 hy, by simp [toPy, PyData.eqv]⟩
        · cases h
      · cases h
  | _ =>
    cases e with
    | loc n =>
      obtain ⟨q, rfl, hq⟩ := hy.loc_inv
      simp only [eqD] at h
      split at h
      · rename_i xs e1
        split at h
        · rename_i c
          simp only [Bool.and_eq_true, ok] at c
          cases h
          obtain ⟨d1, s1⟩ := lst e1 hq c.1
          exact ⟨_, _, dp_of c.2 hx, d1, shaped_of (by decide) c.2 hx, s1, by simp [toPy, PyData.eqv]⟩
        · cases h
      · cases h
    | _ => exact flat hx hy (by simpa only [eqD] using h)
end
def rCmp (K : PySem.W.Frag) (op : COp) : R2 := rD2 K fun x y s => R.opt ((cmp op x y s).map .bl) s
theorem AnsD.opt {K : PySem.W.Frag} {ρ : List Addr} {s : S} {H : Hp} {Q : VK} {o : Option D} (h : AnsD K ρ s H Q (R.opt o s)) : ∃ d, o = some d ∧ AnsD K ρ s H Q (.ok d s) := by
  cases o with
  | none => exact h.elim
  | some d => exact ⟨d, rfl, h⟩
theorem AnsD.optB {K : PySem.W.Frag} {ρ : List Addr} {s : S} {H : Hp} {Q : VK} {o : Option Bool} (h : AnsD K ρ s H Q (R.opt (o.map .bl) s)) : ∃ d, o = some d ∧ AnsD K ρ s H Q (.ok (.bl d) s) := by
  cases o with
  | none => exact h.elim
  | some d => exact ⟨d, rfl, h⟩
theorem cmp_eq_ (hu : X.A.units + 64 < cLine) : OpR X (compareOp .Eq) (rCmp X.K .eq) := by
  refine OpR.imp (op_eqD hu) fun x y H Q h => ?_
  obtain ⟨ρ, s, d, e, r, hx, hy, h⟩ := h
  obtain ⟨k, e1, h⟩ := h.optB
  simp only [cmp] at e1
  obtain ⟨a, b, h1, h2, h3, h4, rfl⟩ := eqD_dp r hx hy e1
  exact ⟨a, b, h1, h2, h3, h4, h.same r (.bl _)⟩
theorem cmp_ne_ (hu : X.A.units + 64 < cLine) : OpR X (compareOp .NotEq) (rCmp X.K .ne) := by
  refine OpR.imp (op_neD hu) fun x y H Q h => ?_
  obtain ⟨ρ, s, d, e, r, hx, hy, h⟩ := h
  obtain ⟨k, e1, h⟩ := h.optB
  simp only [cmp] at e1
  cases e2 : eqD s d e with
  | none => rw [e2] at e1; cases e1
  | some j =>
    rw [e2] at e1; cases e1
    obtain ⟨a, b, h1, h2, h3, h4, rfl⟩ := eqD_dp r hx hy e2
    exact ⟨a, b, h1, h2, h3, h4, h.same r (.bl _)⟩
theorem cmp_lt_ : OpR X (compareOp .Lt) (rCmp X.K .lt) := by
  refine OpR.imp op_lt fun x y H Q h => ?_
  obtain ⟨ρ, s, d, e, r, hx, hy, h⟩ := h
  obtain ⟨k, e1, h⟩ := h.optB
  cases d <;> cases e <;> first | (cases e1; done) | (cases e1; cases hx; cases hy; exact ⟨_, _, rfl, rfl, h.same r (.bl _)⟩)
theorem cmp_gt_ : OpR X (compareOp .Gt) (rCmp X.K .gt) := by
  refine OpR.imp op_gt fun x y H Q h => ?_
  obtain ⟨ρ, s, d, e, r, hx, hy, h⟩ := h
  obtain ⟨k, e1, h⟩ := h.optB
  cases d <;> cases e <;> first | (cases e1; done) | (cases e1; cases hx; cases hy; exact ⟨_, _, rfl, rfl, h.same r (.bl _)⟩)
theorem cmp_ge_ : OpR X (compareOp .GtE) (rCmp X.K .ge) := by
  refine OpR.imp op_ge fun x y H Q h => ?_
  obtain ⟨ρ, s, d, e, r, hx, hy, h⟩ := h
  obtain ⟨k, e1, h⟩ := h.optB
  cases d <;> cases e <;> first | (cases e1; done) | (cases e1; cases hx; cases hy; exact ⟨_, _, rfl, rfl, h.same r (.bl _)⟩)
end
end PX
end
section
/-! PX, soundness 3: in, truth, isinstance, built-ins -/
namespace PX
open PySem PySem.Spec PyProof.Rows L2
section
variable {X : Cx}
/-! ### in -/
def rInTD (K : PySem.W.Frag) : R2 := fun x y H Q => ∃ d ds, Dp K H x d ∧ Dp K H y (.tuple ds) ∧ SeqAt.shaped d = true ∧ SeqAt.shaped (.tuple ds) = true ∧ Q (.bl (ds.any fun z => PyData.eqv z d)) H
def rNotInTD (K : PySem.W.Frag) : R2 := fun x y H Q => ∃ d ds, Dp K H x d ∧ Dp K H y (.tuple ds) ∧ SeqAt.shaped d = true ∧ SeqAt.shaped (.tuple ds) = true ∧ Q (.bl (!ds.any fun z => PyData.eqv z d)) H
theorem op_inTD (hu : X.A.units + 65 < cLine) : OpR X (compareOp .In) (rInTD X.K) := by
  intro pins s σ H x y v u Q I rx ry h
  obtain ⟨d, ds, hd, he, sd, se, q⟩ := h
  obtain ⟨as, r1⟩ := Dp.reads I d x v hd rx
  obtain ⟨bs, r2⟩ := Dp.reads I (.tuple ds) y u he ry
  exact SeqAt.in_tuple_reads r2 r1 (SeqAt.canLay_of_shaped se) (SeqAt.canLay_of_shaped sd) (by
    have := SeqAt.depth_of_shaped sd
    have := Nat.min_le_right (PyData.depthAll ds) d.depth
    omega) ⟨.bl _, H, I, rfl, q⟩
theorem op_notInTD (hu : X.A.units + 65 < cLine) : OpR X (compareOp .NotIn) (rNotInTD X.K) := by
  intro pins s σ H x y v u Q I rx ry h
  obtain ⟨d, ds, hd, he, sd, se, q⟩ := h
  obtain ⟨as, r1⟩ := Dp.reads I d x v hd rx
  obtain ⟨bs, r2⟩ := Dp.reads I (.tuple ds) y u he ry
  exact SeqAt.notIn_tuple_reads r2 r1 (SeqAt.canLay_of_shaped se) (SeqAt.canLay_of_shaped sd) (by
    have := SeqAt.depth_of_shaped sd
    have := Nat.min_le_right (PyData.depthAll ds) d.depth
    omega) ⟨.bl _, H, I, rfl, q⟩
theorem any_of {n m : Nat} {d : D} (h : okN m d = true) : ∀ {ds : List D}, okNs n ds = true → ((toPys ds).any fun z => PyData.eqv z (toPy d)) = ds.any fun y => eqv y d
  | [], _ => rfl
  | y :: ys, g => by
    simp only [okNs, Bool.and_eq_true] at g
    simp only [toPys, List.any_cons]
    rw [eqv_of g.1 h, any_of h g.2]
theorem shaped_lst {ds : List PyData} (h1 : PyData.depthAll ds ≤ 40) (h2 : PyData.canLayAll0 ds = true) : SeqAt.shaped (.list ds) = true := by
  unfold SeqAt.shaped
  have e : (PyData.list ds).canLay0 = true := by simp only [PyData.canLay0]; exact h2
  have f : (PyData.list ds).depth = PyData.depthAll ds + 1 := by simp only [PyData.depth]
  rw [e, f, Bool.true_and]
  exact decide_eq_true (by omega)
theorem shaped_tup {ds : List PyData} (h1 : PyData.depthAll ds ≤ 40) (h2 : PyData.canLayAll0 ds = true) : SeqAt.shaped (.tuple ds) = true := by
  unfold SeqAt.shaped
  have e : (PyData.tuple ds).canLay0 = true := by simp only [PyData.canLay0]; exact h2
  have f : (PyData.tuple ds).depth = PyData.depthAll ds + 1 := by simp only [PyData.depth]
  rw [e, f, Bool.true_and]
  exact decide_eq_true (by omega)
theorem mem_cases {K : PySem.W.Frag} {ρ : List Addr} {s : S} {H : Hp} {x y : V} {d e : D} {k : Bool} (r : RS_ K ρ s H) (hx : RV K ρ H x d) (hy : RV K ρ H y e) (h : mem s d e = some k) :
    (∃ (c : Nat) (z : PySem.Str), x = .str ⟨#[c]⟩ ∧ y = .str z ∧ k = decide (c ∈ z.cps.toList)) ∨
    ∃ a ds, Dp K H x a ∧ (Dp K H y (.list ds) ∧ SeqAt.shaped (.list ds) = true ∨ Dp K H y (.tuple ds) ∧ SeqAt.shaped (.tuple ds) = true) ∧ SeqAt.shaped a = true ∧ (ds.any fun z => PyData.eqv z a) = k := by
  have big : ∀ {xs : List D} {vs : List V}, RVs K ρ H vs xs → okNs maxDepth xs = true → PyData.depthAll (toPys xs) ≤ 40 ∧ PyData.canLayAll0 (toPys xs) = true := fun h c => ⟨depths_of c, lays_of c h⟩
  cases e with
  | str z =>
    cases d with
    | str c =>
      obtain ⟨x', rfl, rfl, _, _⟩ := hx.str_inv
      obtain ⟨y', rfl, rfl, _, _⟩ := hy.str_inv
      simp only [mem] at h
      split at h
      · rename_i c hc
        cases h
        injection hc with hc
        refine .inl ⟨c, y', ?_, rfl, rfl⟩
        obtain ⟨l⟩ := x'
        congr 2
        apply Array.toList_inj.mp
        simpa using hc
      · cases h
    | _ => cases h
  | tup ys =>
    obtain ⟨p, vs, rfl, hp, rp⟩ := hy.tup_inv
    simp only [mem, itemsOf] at h
    split at h
    · rename_i c
      simp only [Bool.and_eq_true, ok] at c
      cases h
      obtain ⟨b1, b2⟩ := big rp c.2
      exact .inr ⟨toPy d, toPys ys, dp_of c.1 hx, .inr ⟨.tup hp (dps_of c.2 rp), shaped_tup b1 b2⟩, shaped_of (by decide) c.1 hx, any_of c.1 c.2⟩
    · cases h
  | loc n =>
    obtain ⟨p, rfl, hp⟩ := hy.loc_inv
    simp only [mem, itemsOf] at h
    cases e1 : S.lst s n with
    | none => rw [e1] at h; cases h
    | some ys =>
      rw [e1] at h
      simp only at h
      split at h
      · rename_i c
        simp only [Bool.and_eq_true, ok] at c
        cases h
        obtain ⟨vs, h1, rp⟩ := r.lst e1 hp
        obtain ⟨b1, b2⟩ := big rp c.2
        exact .inr ⟨toPy d, toPys ys, dp_of c.1 hx, .inl ⟨.lst h1 (dps_of c.2 rp), shaped_lst b1 b2⟩, shaped_of (by decide) c.1 hx, any_of c.1 c.2⟩
      · cases h
  | _ => cases h
theorem cmp_mem_ (hu : X.A.units + 65 < cLine) : OpR X (compareOp .In) (rCmp X.K .mem) := by
  refine OpR.imp (OpR.or (OpR.or (op_in_sign) (op_inD hu)) (op_inTD hu)) fun x y H Q h => ?_
  obtain ⟨ρ, s, d, e, r, hx, hy, h⟩ := h
  obtain ⟨k, e1, h⟩ := h.optB
  simp only [cmp] at e1
  have q := h.same r (.bl _)
  rcases mem_cases r hx hy e1 with ⟨c, z, rfl, rfl, rfl⟩ | ⟨a, ds, h1, h2 | h2, h3, rfl⟩
  · exact .inl (.inl ⟨c, z, rfl, rfl, q⟩)
  · exact .inl (.inr ⟨a, ds, h1, h2.1, h3, h2.2, q⟩)
  · exact .inr ⟨a, ds, h1, h2.1, h3, h2.2, q⟩
theorem cmp_nmem_ (hu : X.A.units + 65 < cLine) : OpR X (compareOp .NotIn) (rCmp X.K .nmem) := by
  refine OpR.imp (OpR.or (OpR.or (op_notIn_sign) (op_notInD hu)) (op_notInTD hu)) fun x y H Q h => ?_
  obtain ⟨ρ, s, d, e, r, hx, hy, h⟩ := h
  obtain ⟨k, e1, h⟩ := h.optB
  simp only [cmp] at e1
  cases e2 : mem s d e with
  | none => rw [e2] at e1; cases e1
  | some j =>
    rw [e2] at e1; cases e1
    have q := h.same r (.bl _)
    rcases mem_cases r hx hy e2 with ⟨c, z, rfl, rfl, rfl⟩ | ⟨a, ds, h1, h2 | h2, h3, rfl⟩
    · exact .inl (.inl ⟨c, z, rfl, rfl, q⟩)
    · exact .inl (.inr ⟨a, ds, h1, h2.1, h3, h2.2, q⟩)
    · exact .inr ⟨a, ds, h1, h2.1, h3, h2.2, q⟩
/-! ### <= -/
theorem lexAt_le (ns ms : List Int) : ∀ (k i : Nat), i + k = min ns.length ms.length →
    Ob.lexAt (fun j => decide (ns.getD j 0 = ms.getD j 0)) (fun j => decide (ns.getD j 0 ≤ ms.getD j 0)) (decide (ns.length ≤ ms.length)) i k = !lexLt (ms.drop i) (ns.drop i) := by
  intro k
  induction k with
  | zero =>
    intro i h
    simp only [Ob.lexAt]
    rcases Nat.le_total ns.length ms.length with l | l
    · have : ns.drop i = [] := List.drop_eq_nil_of_le (by omega)
      rw [this]
      cases ms.drop i <;> simp [PX.lexLt, l]
    · by_cases e : ns.length = ms.length
      · have h1 : ns.drop i = [] := List.drop_eq_nil_of_le (by omega)
        have h2 : ms.drop i = [] := List.drop_eq_nil_of_le (by omega)
        rw [h1, h2]; simp [PX.lexLt, e]
      · have h2 : ms.drop i = [] := List.drop_eq_nil_of_le (by omega)
        have hn : i < ns.length := by omega
        rw [h2, List.drop_eq_getElem_cons hn]
        simp [PX.lexLt]; omega
  | succ k ih =>
    intro i h
    have hn : i < ns.length := by omega
    have hm : i < ms.length := by omega
    have e := ih (i + 1) (by omega)
    simp only [Ob.lexAt]
    rw [List.drop_eq_getElem_cons hn, List.drop_eq_getElem_cons hm]
    simp only [PX.lexLt]
    have g1 : ns.getD i 0 = ns[i] := by simp [hn]
    have g2 : ms.getD i 0 = ms[i] := by simp [hm]
    rw [g1, g2]
    by_cases q : ns[i] = ms[i]
    · have l : ¬ ms[i] < ms[i] := Int.lt_irrefl _
      rw [if_pos (decide_eq_true q), e, q, decide_eq_false l, decide_eq_true rfl, Bool.false_or, Bool.true_and]
    · have q' : ¬ ms[i] = ns[i] := fun z => q z.symm
      rw [if_neg (by simpa using q), decide_eq_false q', Bool.false_and, Bool.or_false]
      by_cases l : ns[i] ≤ ms[i]
      · rw [decide_eq_true l, decide_eq_false (by omega)]; rfl
      · rw [decide_eq_false l, decide_eq_true (by omega)]; rfl
theorem ints_rvs {K : PySem.W.Frag} {ρ : List Addr} {H : Hp} : ∀ {vs : List V} {ds : List D} {is : List Int}, RVs K ρ H vs ds → intsD ds = some is → vs = is.map V.int ∧ ds = is.map D.int
  | _, _, _, .nil, e => by simp at e; subst e; exact ⟨rfl, rfl⟩
  | _, _, _, .cons h t, e => by
    cases h with
    | int i =>
      simp only [intsD] at e
      split at e
      · rename_i l e2
        cases e
        obtain ⟨rfl, rfl⟩ := ints_rvs t e2
        exact ⟨rfl, rfl⟩
      · cases e
    | _ => simp at e
theorem bools_rvs {K : PySem.W.Frag} {ρ : List Addr} {H : Hp} : ∀ {vs : List V} {ds : List D} {is : List Bool}, RVs K ρ H vs ds → boolsD ds = some is → vs = is.map V.bl ∧ ds = is.map D.bl
  | _, _, _, .nil, e => by simp at e; subst e; exact ⟨rfl, rfl⟩
  | _, _, _, .cons h t, e => by
    cases h with
    | bl i =>
      simp only [boolsD] at e
      split at e
      · rename_i l e2
        cases e
        obtain ⟨rfl, rfl⟩ := bools_rvs t e2
        exact ⟨rfl, rfl⟩
      · cases e
    | _ => simp at e
theorem rvs_ints {K : PySem.W.Frag} {ρ : List Addr} {H : Hp} (is : List Int) : RVs K ρ H (is.map V.int) (is.map D.int) := RVs.map (fun i => .int i) is
theorem cmp_le_ (hu : X.A.units < cLine) : OpR X (compareOp .LtE) (rCmp X.K .le) := by
  refine OpR.imp (OpR.or op_le (op_leT hu)) fun x y H Q h => ?_
  obtain ⟨ρ, s, d, e, r, hx, hy, h⟩ := h
  obtain ⟨k, e1, h⟩ := h.optB
  have q := h.same r (.bl _)
  cases d with
  | int i =>
    cases e with
    | int j => cases hx; cases hy; cases e1; exact .inl ⟨_, _, rfl, rfl, q⟩
    | _ => cases e1
  | tup a =>
    cases e with
    | tup b =>
      obtain ⟨p1, vs1, rfl, hp1, r1⟩ := hx.tup_inv
      obtain ⟨p2, vs2, rfl, hp2, r2⟩ := hy.tup_inv
      simp only [cmp] at e1
      split at e1
      · rename_i m n em en
        cases e1
        obtain ⟨rfl, rfl⟩ := ints_rvs r1 em
        obtain ⟨rfl, rfl⟩ := ints_rvs r2 en
        refine .inr ⟨p1, p2, m, n, rfl, rfl, hp1, hp2, ?_⟩
        rw [lexAt_le m n _ 0 (by omega)]
        exact q
      · cases e1
    | _ => cases e1
  | _ => cases e <;> cases e1

/-! ### truth -/
theorem tru_of {K : PySem.W.Frag} {ρ : List Addr} {s : S} {H : Hp} {x : V} {d : D} {k : Bool} (r : RS_ K ρ s H) (hx : RV K ρ H x d) (h : truth s d = some k) : TruV K x H k := by
  cases d with
  | non => cases hx; cases h; rfl
  | bl b => cases hx; cases h; rfl
  | int i => cases hx; cases h; rfl
  | str c =>
    obtain ⟨x', rfl, rfl, _, l⟩ := hx.str_inv
    cases h
    refine ⟨l, ?_⟩
    rw [str_len]
    cases x'.cps.toList with
    | nil => rfl
    | cons c r =>
      simp
      omega
  | tup ds =>
    obtain ⟨p, vs, rfl, hp, rp⟩ := hx.tup_inv
    cases h
    refine .inr (.inl ⟨vs, hp, ?_⟩)
    cases rp <;> rfl
  | loc n =>
    obtain ⟨p, rfl, hp⟩ := hx.loc_inv
    simp only [truth] at h
    split at h
    · rename_i xs e
      cases h
      obtain ⟨vs, h1, rp⟩ := r.lst e hp
      refine .inl ⟨vs, h1, ?_⟩
      cases rp <;> rfl
    · cases h
/-! ### isinstance -/
def tyN : Ty → String
  | .int => "int" | .bool => "bool" | .str => "str" | .tuple => "tuple" | .list => "list"
theorem tyx_tup {K : PySem.W.Frag} {H : Hp} {a : Addr} {vs : List V} (h : SqT K H a vs) : TyX K H (.ref a) (.type "tuple") := by
  rcases h with (h | ⟨o, h⟩) | ⟨o, its, n, h1, h2, _⟩
  · exact .base (.tup h)
  · exact .fTuple h
  · exact .kTuple h1 h2
theorem tyx_lst {K : PySem.W.Frag} {H : Hp} {a : Addr} {vs : List V} (h : SqL K H a vs) : TyX K H (.ref a) (.type "list") := by
  rcases h with (h | ⟨o, h⟩) | ⟨o, its, n, h1, h2, _⟩
  · exact .base (.lst h)
  · exact .base (.frz h)
  · exact .kList h1 h2
/-- a value's type by its name -/
def tyName (s : S) : D → Option String
  | .non => some "NoneType"
  | .bl _ => some "bool"
  | .int _ => some "int"
  | .str _ => some "str"
  | .tup _ => some "tuple"
  | .loc n => (S.lst s n).map fun _ => "list"
theorem tyx_of {K : PySem.W.Frag} {ρ : List Addr} {s : S} {H : Hp} {x : V} {d : D} {n : String} (r : RS_ K ρ s H) (hx : RV K ρ H x d) (h : tyName s d = some n) : TyX K H x (.type n) := by
  cases d with
  | non => cases hx; cases h; exact .base .non
  | bl b => cases hx; cases h; exact .base (.bl _)
  | int i => cases hx; cases h; exact .base (.int _)
  | str c => obtain ⟨x', rfl, rfl, _, l⟩ := hx.str_inv; cases h; exact .base (.str _)
  | tup ds => obtain ⟨p, vs, rfl, hp, rp⟩ := hx.tup_inv; cases h; exact tyx_tup hp
  | loc n =>
    obtain ⟨p, rfl, hp⟩ := hx.loc_inv
    simp only [tyName] at h
    cases e : S.lst s n with
    | none => rw [e] at h; cases h
    | some xs =>
      rw [e] at h; cases h
      obtain ⟨vs, h1, _⟩ := r.lst e hp
      exact tyx_lst h1
theorem tyName_of {K : PySem.W.Frag} {ρ : List Addr} {s : S} {H : Hp} {x : V} {d : D} (r : RS_ K ρ s H) (hx : RV K ρ H x d) : ∃ n, tyName s d = some n ∧ n ∈ ["NoneType", "bool", "int", "str", "tuple", "list"] ∧ ∀ t, isTy s d t = (n == tyN t || (n == "bool" && tyN t == "int")) := by
  cases d with
  | non => exact ⟨_, rfl, by decide, fun t => by cases t <;> rfl⟩
  | bl b => exact ⟨_, rfl, by decide, fun t => by cases t <;> rfl⟩
  | int b => exact ⟨_, rfl, by decide, fun t => by cases t <;> rfl⟩
  | str b => exact ⟨_, rfl, by decide, fun t => by cases t <;> rfl⟩
  | tup b => exact ⟨_, rfl, by decide, fun t => by cases t <;> rfl⟩
  | loc n =>
    obtain ⟨p, rfl, hp⟩ := hx.loc_inv
    have hn : n < s.length := by
      have := (List.getElem?_eq_some_iff.mp hp).1
      rw [r.len] at this; exact this
    have e : ∃ xs, S.lst s n = some xs := by
      unfold S.lst
      rw [List.getElem?_eq_getElem hn]
      cases s[n] <;> exact ⟨_, rfl⟩
    obtain ⟨xs, e⟩ := e
    refine ⟨"list", by simp [tyName, e], by decide, fun t => ?_⟩
    cases t <;> simp [isTy, e, tyN]
theorem kit_one (K : PySem.W.Frag) : ∀ n ∈ ["NoneType", "bool", "int", "str", "tuple", "list"], ∀ t : Ty, PySem.W.kitOne K (.type n) (.type (tyN t)) = some (n == tyN t || (n == "bool" && tyN t == "int")) := by
  intro n hn t
  simp only [List.mem_cons, List.not_mem_nil, or_false] at hn
  rcases hn with rfl | rfl | rfl | rfl | rfl | rfl <;> cases t <;> with_unfolding_all rfl
end
end PX
end
section
/-! PX, soundness 4: expressions -/
namespace PX
open PySem PySem.Spec PyProof.Rows L2
section
variable {X : Cx} {C : Ctx} {a b c e : Expr} {ia ib ic : E} {pos : Pos}
theorem ex_cst {v : V} {d : D} (h : PE X e (tC v)) (r : ∀ ρ H, RV X.K ρ H v d) : PE X e (tE X.K C (.cst d)) := PE.imp h fun σ H Q q => by
  obtain ⟨ρ, s, η, r1, en, q⟩ := q
  exact AnsD.same (d := d) q r1 (r ρ H)
theorem ex_glo {x : PySem.Str} {v : V} {d : D} (h : PE X e (tC v)) (g : C.glo x = some d) (r : ∀ ρ H, RV X.K ρ H v d) : PE X e (tE X.K C (.glo x)) := PE.imp h fun σ H Q q => by
  obtain ⟨ρ, s, η, r1, en, q⟩ := q
  simp only [evE_glo, g, opt_some] at q
  exact AnsD.same (d := d) q r1 (r ρ H)
theorem ex_var {i : Nat} (h : PE X e (tVar i)) : PE X e (tE X.K C (.var i)) := PE.imp h fun σ H Q q => by
  obtain ⟨ρ, s, η, r1, en, q⟩ := q
  simp only [evE_var] at q
  cases g : getV i η with
  | none => rw [g] at q; exact q.elim
  | some d =>
    rw [g] at q
    obtain ⟨v, h1, h2⟩ := en.2 i d g
    exact ⟨v, h1, AnsD.same (d := d) q r1 h2⟩
theorem ex_bin {op : Operator} {o : BOp} (ho : OpR X (binaryOp op) (rD2 X.K (bin o))) (ha : PE X a (tE X.K C ia)) (hb : PE X b (tE X.K C ib)) : PE X (.BinOp a op b pos) (tE X.K C (.bin o ia ib)) :=
  PE.imp (pe_op ho ha hb) fun σ H Q q => by
    obtain ⟨ρ, s, η, r, en, q⟩ := q
    refine tE.step r en q fun x d s1 ρ1 H1 _ r1 en1 rv1 q1 => ?_
    refine tE.step r1 en1 q1 fun y e s2 ρ2 H2 x2 r2 en2 rv2 q2 => ?_
    exact ⟨ρ2, s2, d, e, r2, x2.rv r1 rv1, rv2, q2⟩
theorem ex_cmp {op : CmpOp} {o : COp} (ho : OpR X (compareOp op) (rCmp X.K o)) (ha : PE X a (tE X.K C ia)) (hb : PE X b (tE X.K C ib)) (hm : behindInMarks op b = false) : PE X (.Compare a [op] [b] pos) (tE X.K C (.cmp o ia ib)) :=
  PE.imp (pe_cmpR ho ha hb hm) fun σ H Q q => by
    obtain ⟨ρ, s, η, r, en, q⟩ := q
    refine tE.step r en q fun x d s1 ρ1 H1 _ r1 en1 rv1 q1 => ?_
    refine tE.step r1 en1 q1 fun y e s2 ρ2 H2 x2 r2 en2 rv2 q2 => ?_
    exact ⟨ρ2, s2, d, e, r2, x2.rv r1 rv1, rv2, q2⟩
theorem AnsB.opt {K : PySem.W.Frag} {ρ : List Addr} {s : S} {H : Hp} {Q : Bool → Hp → Prop} {o : Option Bool} (h : AnsB K ρ s H Q (R.opt (o.map .bl) s)) : ∃ k, o = some k ∧ ∀ (ρ' : List Addr) (H' : Hp), Ext K ρ s H ρ' s H' → Q k H' := by
  cases o with
  | none => exact h.elim
  | some k => obtain ⟨j, e, h⟩ := h; cases e; exact ⟨k, rfl, h⟩
theorem te_cmp {op : CmpOp} {o : COp} (ho : OpR X (compareOp op) (rCmp X.K o)) (ha : PE X a (tE X.K C ia)) (hb : PE X b (tE X.K C ib)) (hm : behindInMarks op b = false) : PT X (.Compare a [op] [b] pos) (tT X.K C (.cmp o ia ib)) :=
  PT.imp (pt_cmpR ho ha hb hm) fun σ H Q q => by
    obtain ⟨ρ, s, η, r, en, q⟩ := q
    refine tE.stepB r en q fun x d s1 ρ1 H1 _ r1 en1 rv1 q1 => ?_
    refine tE.stepB r1 en1 q1 fun y e s2 ρ2 H2 x2 r2 en2 rv2 q2 => ?_
    obtain ⟨k, e1, h⟩ := q2.opt
    refine ⟨ρ2, s2, d, e, r2, x2.rv r1 rv1, rv2, ?_⟩
    show AnsD X.K ρ2 s2 H2 _ (R.opt ((cmp o d e s2).map .bl) s2)
    rw [e1]
    intro v ρ' H' x rv
    cases rv
    exact ⟨k, rfl, h ρ' H' x⟩
theorem ex_chn {op op' : CmpOp} {o o' : COp} (ho : OpR X (compareOp op) (rCmp X.K o)) (ho' : OpR X (compareOp op') (rCmp X.K o')) (ha : PE X a (tE X.K C ia)) (hb : PE X b (tE X.K C ib)) (hc : PE X c (tE X.K C ic))
    (hm : lastMarks [op, op'] [b, c] = false) : PE X (.Compare a [op, op'] [b, c] pos) (tE X.K C (.chn o o' ia ib ic)) :=
  PE.imp (pe_chain ho ho' ha hb hc hm) fun σ H Q q => by
    obtain ⟨ρ, s, η, r, en, q⟩ := q
    refine tE.step r en q fun x d s1 ρ1 H1 _ r1 en1 rv1 q1 => ?_
    refine tE.step r1 en1 q1 fun y e s2 ρ2 H2 x2 r2 en2 rv2 q2 => ?_
    have rx := x2.rv r1 rv1
    cases e1 : cmp o d e s2 with
    | none => rw [e1] at q2; exact q2.elim
    | some k =>
      refine ⟨ρ2, s2, d, e, r2, rx, rv2, ?_⟩
      show AnsD X.K ρ2 s2 H2 _ (R.opt ((cmp o d e s2).map .bl) s2)
      rw [e1]
      intro v ρ' H' x' rv
      cases rv
      rw [e1] at q2
      refine ⟨k, rfl, ?_⟩
      cases k with
      | false => exact iteF ((AnsD.ext q2 x').same x'.rep (.bl _))
      | true =>
        refine iteT ?_
        refine tE.step x'.rep (en2.mono x' r2) (AnsD.ext q2 x') fun z f s3 ρ3 H3 x3 r3 en3 rv3 q3 => ?_
        exact ⟨ρ3, s3, e, f, r3, x3.rv x'.rep (x'.rv r2 rv2), rv3, q3⟩
theorem te_chn {op op' : CmpOp} {o o' : COp} (ho : OpR X (compareOp op) (rCmp X.K o)) (ho' : OpR X (compareOp op') (rCmp X.K o')) (ha : PE X a (tE X.K C ia)) (hb : PE X b (tE X.K C ib)) (hc : PE X c (tE X.K C ic))
    (hm : lastMarks [op, op'] [b, c] = false) : PT X (.Compare a [op, op'] [b, c] pos) (tT X.K C (.chn o o' ia ib ic)) :=
  PT.imp (pt_chain ho ho' ha hb hc hm) fun σ H Q q => by
    obtain ⟨ρ, s, η, r, en, q⟩ := q
    refine tE.stepB r en q fun x d s1 ρ1 H1 _ r1 en1 rv1 q1 => ?_
    refine tE.stepB r1 en1 q1 fun y e s2 ρ2 H2 x2 r2 en2 rv2 q2 => ?_
    have rx := x2.rv r1 rv1
    cases e1 : cmp o d e s2 with
    | none => rw [e1] at q2; exact q2.elim
    | some k =>
      refine ⟨ρ2, s2, d, e, r2, rx, rv2, ?_⟩
      show AnsD X.K ρ2 s2 H2 _ (R.opt ((cmp o d e s2).map .bl) s2)
      rw [e1]
      intro v ρ' H' x' rv
      cases rv
      rw [e1] at q2
      refine ⟨k, rfl, ?_⟩
      cases k with
      | false =>
        obtain ⟨j, ej, h⟩ := q2
        cases ej
        exact iteF ⟨false, rfl, h ρ' H' x'⟩
      | true =>
        refine iteT ?_
        refine tE.stepB x'.rep (en2.mono x' r2) (AnsB.ext q2 x') fun z f s3 ρ3 H3 x3 r3 en3 rv3 q3 => ?_
        obtain ⟨k, ek, h⟩ := q3.opt
        refine ⟨ρ3, s3, e, f, r3, x3.rv x'.rep (x'.rv r2 rv2), rv3, ?_⟩
        show AnsD X.K ρ3 s3 H3 _ (R.opt ((cmp o' e f s3).map .bl) s3)
        rw [ek]
        intro v ρ' H' x4 rv
        cases rv
        exact ⟨k, rfl, h ρ' H' x4⟩
theorem isNon_of {K : PySem.W.Frag} {ρ : List Addr} {H : Hp} {x : V} {d : D} (h : RV K ρ H x d) : decide (x = .non) = isNon d := by cases h <;> rfl
theorem ex_isn {j : Nat} {pos' : Pos} (ha : PE X a (tE X.K C ia)) : PE X (.Compare a [.Is] [.Constant .none j pos'] pos) (tE X.K C (.isn ia)) :=
  PE.imp (pe_cmp (pc_isN ha) rfl) fun σ H Q q => by
    obtain ⟨ρ, s, η, r, en, q⟩ := q
    refine tE.step r en q fun x d s1 ρ1 H1 _ r1 en1 rv1 q1 => ?_
    rw [isNon_of rv1]
    exact q1.same r1 (.bl _)
theorem ex_isnn {j : Nat} {pos' : Pos} (ha : PE X a (tE X.K C ia)) : PE X (.Compare a [.IsNot] [.Constant .none j pos'] pos) (tE X.K C (.isnn ia)) :=
  PE.imp (pe_cmp (pc_notN ha) rfl) fun σ H Q q => by
    obtain ⟨ρ, s, η, r, en, q⟩ := q
    refine tE.step r en q fun x d s1 ρ1 H1 _ r1 en1 rv1 q1 => ?_
    rw [isNon_of rv1]
    exact q1.same r1 (.bl _)
/-- a value that is a truth value, as a test -/
theorem te_val {i : E} (h : PT X e (tB (tE X.K C i))) (hb : ∀ η s d s', evE C i η s = .ok d s' → ∃ k, d = .bl k) : PT X e (tT X.K C i) :=
  PT.imp h fun σ H Q q => by
    obtain ⟨ρ, s, η, r, en, q⟩ := q
    refine ⟨ρ, s, η, r, en, ?_⟩
    cases e1 : evE C i η s with
    | ok d s1 =>
      rw [e1] at q
      obtain ⟨k, rfl⟩ := hb _ _ _ _ e1
      obtain ⟨j, ej, h⟩ := q
      cases ej
      intro v ρ1 H1 x rv
      cases rv
      exact ⟨k, rfl, h ρ1 H1 x⟩
    | exn _ _ => rw [e1] at q; exact q
    | bad => rw [e1] at q; exact q
theorem te_isn {j : Nat} {pos' : Pos} (ha : PE X a (tE X.K C ia)) : PT X (.Compare a [.Is] [.Constant .none j pos'] pos) (tT X.K C (.isn ia)) :=
  te_val (PT.imp (pt_cmp (pc_isN ha) rfl) fun σ H Q q => by
    obtain ⟨ρ, s, η, r, en, q⟩ := q
    refine tE.step r en q fun x d s1 ρ1 H1 _ r1 en1 rv1 q1 => ?_
    rw [isNon_of rv1]
    exact q1.same r1 (.bl _)) fun η s d s' h => by
      simp only [evE_isn] at h
      cases e : evE C ia η s <;> rw [e] at h <;> cases h
      exact ⟨_, rfl⟩
theorem te_isnn {j : Nat} {pos' : Pos} (ha : PE X a (tE X.K C ia)) : PT X (.Compare a [.IsNot] [.Constant .none j pos'] pos) (tT X.K C (.isnn ia)) :=
  te_val (PT.imp (pt_cmp (pc_notN ha) rfl) fun σ H Q q => by
    obtain ⟨ρ, s, η, r, en, q⟩ := q
    refine tE.step r en q fun x d s1 ρ1 H1 _ r1 en1 rv1 q1 => ?_
    rw [isNon_of rv1]
    exact q1.same r1 (.bl _)) fun η s d s' h => by
      simp only [evE_isnn] at h
      cases e : evE C ia η s <;> rw [e] at h <;> cases h
      exact ⟨_, rfl⟩
/-- any value's truth, as a test -/
theorem te_truth {i : E} (h : PE X e (tE X.K C i)) (he : ∀ whole, isTrue e X.env whole = (do let v ← whole; standAt e.pos; holding [v] (truthy v))) : PT X e (tT X.K C i) :=
  PT.imp (pt_truth h he) fun σ H Q q => by
    obtain ⟨ρ, s, η, r, en, q⟩ := q
    refine ⟨ρ, s, η, r, en, ?_⟩
    cases e1 : evE C i η s with
    | ok d s1 =>
      rw [e1] at q
      obtain ⟨k, ek, h⟩ := q
      intro v ρ1 H1 x rv
      exact ⟨k, tru_of x.rep rv ek, h ρ1 H1 x⟩
    | exn _ _ => rw [e1] at q; exact q
    | bad => rw [e1] at q; exact q
theorem AnsB.by {K : PySem.W.Frag} {ρ : List Addr} {s : S} {H : Hp} {Q : Bool → Hp → Prop} {o : Option Bool} {x y : R D} (h : AnsB K ρ s H Q (R.by o x y)) : ∃ k, o = some k ∧ AnsB K ρ s H Q (if k then x else y) := by
  cases o with
  | none => exact h.elim
  | some k => cases k <;> exact ⟨_, rfl, h⟩
theorem AnsD.by {K : PySem.W.Frag} {ρ : List Addr} {s : S} {H : Hp} {Q : VK} {o : Option Bool} {x y : R D} (h : AnsD K ρ s H Q (R.by o x y)) : ∃ k, o = some k ∧ AnsD K ρ s H Q (if k then x else y) := by
  cases o with
  | none => exact h.elim
  | some k => cases k <;> exact ⟨_, rfl, h⟩
/-- a test is made, then the rest -/
theorem tT.step {K : PySem.W.Frag} {ρ : List Addr} {s : S} {H : Hp} {σ : L2.St} {η : Env} {i : E} {g g' : D → S → R D} {Q : VK} {P : Bool → Hp → Prop} (r : RS_ K ρ s H) (en : REnv K ρ H σ η)
    (h : AnsD K ρ s H Q ((evE C i η s).bind fun d s => R.by (truth s d) (g d s) (g' d s)))
    (k : ∀ (k : Bool) (d : D) (s1 : S) (ρ1 : List Addr) (H1 : Hp), Ext K ρ s H ρ1 s1 H1 → RS_ K ρ1 s1 H1 → REnv K ρ1 H1 σ η → AnsD K ρ1 s1 H1 Q (if k then g d s1 else g' d s1) → P k H1) : tT K C i σ H P := by
  refine ⟨ρ, s, η, r, en, ?_⟩
  cases e1 : evE C i η s with
  | ok d s1 =>
    rw [e1] at h
    obtain ⟨k0, e2, h⟩ := AnsD.by h
    exact ⟨k0, e2, fun ρ1 H1 x => k k0 d s1 ρ1 H1 x x.rep (en.mono x r) (AnsD.ext h x)⟩
  | exn _ _ => rw [e1] at h; exact h
  | bad => rw [e1] at h; exact h
theorem tT.stepB {K : PySem.W.Frag} {ρ : List Addr} {s : S} {H : Hp} {σ : L2.St} {η : Env} {i : E} {g g' : D → S → R D} {Q : Bool → Hp → Prop} {P : Bool → Hp → Prop} (r : RS_ K ρ s H) (en : REnv K ρ H σ η)
    (h : AnsB K ρ s H Q ((evE C i η s).bind fun d s => R.by (truth s d) (g d s) (g' d s)))
    (k : ∀ (k : Bool) (d : D) (s1 : S) (ρ1 : List Addr) (H1 : Hp), Ext K ρ s H ρ1 s1 H1 → RS_ K ρ1 s1 H1 → REnv K ρ1 H1 σ η → truth s1 d = some k → AnsB K ρ1 s1 H1 Q (if k then g d s1 else g' d s1) → P k H1) : tT K C i σ H P := by
  refine ⟨ρ, s, η, r, en, ?_⟩
  cases e1 : evE C i η s with
  | ok d s1 =>
    rw [e1] at h
    obtain ⟨k0, e2, h⟩ := AnsB.by h
    exact ⟨k0, e2, fun ρ1 H1 x => k k0 d s1 ρ1 H1 x x.rep (en.mono x r) e2 (AnsB.ext h x)⟩
  | exn _ _ => rw [e1] at h; exact h
  | bad => rw [e1] at h; exact h
theorem ex_ife (hc : PT X c (tT X.K C ic)) (ha : PE X a (tE X.K C ia)) (hb : PE X b (tE X.K C ib)) : PE X (.IfExp c a b pos) (tE X.K C (.ife ic ia ib)) :=
  PE.imp (pe_ifExp hc ha hb) fun σ H Q q => by
    obtain ⟨ρ, s, η, r, en, q⟩ := q
    refine tT.step r en q fun k d s1 ρ1 H1 _ r1 en1 q1 => ?_
    cases k with
    | true => exact iteT ⟨ρ1, s1, η, r1, en1, q1⟩
    | false => exact iteF ⟨ρ1, s1, η, r1, en1, q1⟩
theorem ex_not (ha : PE X a (tE X.K C ia)) : PE X (.UnaryOp .Not a pos) (tE X.K C (.not ia)) :=
  PE.imp (pe_notT ha) fun σ H Q q => by
    obtain ⟨ρ, s, η, r, en, q⟩ := q
    refine tE.step r en q fun x d s1 ρ1 H1 _ r1 en1 rv1 q1 => ?_
    obtain ⟨d', e, q1⟩ := q1.opt
    cases e2 : truth s1 d with
    | none => rw [e2] at e; cases e
    | some k =>
      rw [e2] at e; cases e
      exact ⟨k, tru_of r1 rv1 e2, q1.same r1 (.bl _)⟩
theorem te_not (ha : PT X a (tT X.K C ia)) : PT X (.UnaryOp .Not a pos) (tT X.K C (.not ia)) :=
  PT.imp (pt_not ha) fun σ H Q q => by
    obtain ⟨ρ, s, η, r, en, q⟩ := q
    refine ⟨ρ, s, η, r, en, ?_⟩
    simp only [evE_not] at q
    cases e1 : evE C ia η s with
    | ok d s1 =>
      rw [e1] at q
      simp only [bind_ok] at q
      cases e2 : truth s1 d with
      | none => rw [e2] at q; exact q.elim
      | some k =>
        rw [e2] at q
        obtain ⟨j, ej, h⟩ := q
        cases ej
        exact ⟨k, e2, h⟩
    | exn _ _ => rw [e1] at q; exact q
    | bad => rw [e1] at q; exact q
theorem ex_neg (ha : PE X a (tE X.K C ia)) : PE X (.UnaryOp .USub a pos) (tE X.K C (.neg ia)) :=
  PE.imp (pe_un un_neg_ ha) fun σ H Q q => by
    obtain ⟨ρ, s, η, r, en, q⟩ := q
    refine tE.step r en q fun x d s1 ρ1 H1 _ r1 en1 rv1 q1 => ?_
    exact ⟨ρ1, s1, d, r1, rv1, q1⟩
theorem ex_and {rest : List Expr} (ha : PE X a (tE X.K C ia)) (hb : PE X (.BoolOp .And (b :: rest) pos) (tE X.K C ib)) : PE X (.BoolOp .And (a :: b :: rest) pos) (tE X.K C (.and ia ib)) :=
  PE.imp (pe_andT ha hb) fun σ H Q q => by
    obtain ⟨ρ, s, η, r, en, q⟩ := q
    refine tE.step r en q fun x d s1 ρ1 H1 _ r1 en1 rv1 q1 => ?_
    obtain ⟨k, e, q1⟩ := AnsD.by q1
    refine ⟨k, tru_of r1 rv1 e, ?_⟩
    cases k with
    | true => exact iteT ⟨ρ1, s1, η, r1, en1, q1⟩
    | false => exact iteF (AnsD.same q1 r1 rv1)
theorem ex_or {rest : List Expr} (ha : PE X a (tE X.K C ia)) (hb : PE X (.BoolOp .Or (b :: rest) pos) (tE X.K C ib)) : PE X (.BoolOp .Or (a :: b :: rest) pos) (tE X.K C (.or ia ib)) :=
  PE.imp (pe_orT ha hb) fun σ H Q q => by
    obtain ⟨ρ, s, η, r, en, q⟩ := q
    refine tE.step r en q fun x d s1 ρ1 H1 _ r1 en1 rv1 q1 => ?_
    obtain ⟨k, e, q1⟩ := AnsD.by q1
    refine ⟨k, tru_of r1 rv1 e, ?_⟩
    cases k with
    | true => exact iteT (AnsD.same q1 r1 rv1)
    | false => exact iteF ⟨ρ1, s1, η, r1, en1, q1⟩
theorem PW.imp {e : Expr} {t t' : TT} (h : PW X e t) (f : ∀ σ H Q, t' σ H Q → t σ H Q) : PW X e t' := ⟨fun wh pins s σ H Q I q => h.run wh pins s σ H Q I (f σ H Q q)⟩
theorem tw_and {rest : List Expr} (ha : PT X a (tT X.K C ia)) (hb : PW X (.BoolOp .And (b :: rest) pos) (tT X.K C ib)) : PW X (.BoolOp .And (a :: b :: rest) pos) (tT X.K C (.and ia ib)) :=
  PW.imp (pw_and ha hb) fun σ H Q q => by
    obtain ⟨ρ, s, η, r, en, q⟩ := q
    refine tT.stepB r en q fun k d s1 ρ1 H1 _ r1 en1 e q1 => ?_
    cases k with
    | true => exact iteT ⟨ρ1, s1, η, r1, en1, q1⟩
    | false =>
      obtain ⟨j, ej, h⟩ := q1
      rw [e] at ej; cases ej
      exact iteF (h ρ1 H1 (Ext.refl r1))
theorem tw_or {rest : List Expr} (ha : PT X a (tT X.K C ia)) (hb : PW X (.BoolOp .Or (b :: rest) pos) (tT X.K C ib)) : PW X (.BoolOp .Or (a :: b :: rest) pos) (tT X.K C (.or ia ib)) :=
  PW.imp (pw_or ha hb) fun σ H Q q => by
    obtain ⟨ρ, s, η, r, en, q⟩ := q
    refine tT.stepB r en q fun k d s1 ρ1 H1 _ r1 en1 e q1 => ?_
    cases k with
    | false => exact iteF ⟨ρ1, s1, η, r1, en1, q1⟩
    | true =>
      obtain ⟨j, ej, h⟩ := q1
      rw [e] at ej; cases ej
      exact iteT (h ρ1 H1 (Ext.refl r1))

/-! ### argument lists, displays -/
variable {es : List Expr} {ies : Es}
theorem tEs.step {K : PySem.W.Frag} {ρ : List Addr} {s : S} {H : Hp} {σ : L2.St} {η : Env} {i : Es} {f : List D → S → R D} {Q : VK} {P : List V → Hp → Prop} (r : RS_ K ρ s H) (en : REnv K ρ H σ η) (h : AnsD K ρ s H Q ((evEs C i η s).bind f))
    (k : ∀ (x : List V) (d : List D) (s1 : S) (ρ1 : List Addr) (H1 : Hp), Ext K ρ s H ρ1 s1 H1 → RS_ K ρ1 s1 H1 → REnv K ρ1 H1 σ η → RVs K ρ1 H1 x d → AnsD K ρ1 s1 H1 Q (f d s1) → P x H1) : tEs K C i σ H P := by
  refine ⟨ρ, s, η, r, en, ?_⟩
  cases e1 : evEs C i η s with
  | ok d s1 =>
    rw [e1] at h
    exact fun v ρ1 H1 x rv => k v d s1 ρ1 H1 x x.rep (en.mono x r) rv (AnsD.ext h x)
  | exn _ _ => rw [e1] at h; exact h
  | bad => rw [e1] at h; exact h
theorem as_nil : PA X [] (tEs X.K C .nil) := PA.imp pa_nil fun σ H Q q => by
  obtain ⟨ρ, s, η, r, en, q⟩ := q
  exact q [] ρ H (Ext.refl r) .nil
theorem as_cons (ha : PE X e (tE X.K C ia)) (hr : PA X es (tEs X.K C ies)) (hs : starEach (e :: es) X.env = (false, eval e X.env) :: starEach es X.env) : PA X (e :: es) (tEs X.K C (.cons ia ies)) :=
  PA.imp (pa_cons ha hr hs) fun σ H Q q => by
    obtain ⟨ρ, s, η, r, en, q⟩ := q
    simp only [evEs_cons] at q
    refine ⟨ρ, s, η, r, en, ?_⟩
    cases e1 : evE C ia η s with
    | ok d s1 =>
      rw [e1] at q
      intro v ρ1 H1 x1 rv1
      refine ⟨ρ1, s1, η, x1.rep, en.mono x1 r, ?_⟩
      have q1 := AnsDs.ext q x1
      cases e2 : evEs C ies η s1 with
      | ok ds s2 =>
        rw [bind_ok, e2] at q1
        intro vs ρ2 H2 x2 rv2
        exact q1 (v :: vs) ρ2 H2 x2 (.cons (x2.rv x1.rep rv1) rv2)
      | exn _ _ => rw [bind_ok, e2] at q1; exact q1
      | bad => rw [bind_ok, e2] at q1; exact q1
    | exn _ _ => rw [e1] at q; exact q
    | bad => rw [e1] at q; exact q
/-- how many -/
def lenEs : Es → Nat
  | .nil => 0
  | .cons _ r => lenEs r + 1
theorem lenEs_ok : ∀ {i : Es} {η : Env} {s s' : S} {ds : List D}, evEs C i η s = .ok ds s' → ds.length = lenEs i
  | .nil, _, _, _, _, h => by simp at h; rw [h.1]; rfl
  | .cons e r, η, s, s', ds, h => by
    simp only [evEs_cons] at h
    cases e1 : evE C e η s with
    | ok d s1 =>
      rw [e1, bind_ok] at h
      cases e2 : evEs C r η s1 with
      | ok es s2 =>
        rw [e2, bind_ok] at h
        cases h
        simp only [List.length_cons, lenEs]
        rw [lenEs_ok e2]
      | exn _ _ => rw [e2] at h; cases h
      | bad => rw [e2] at h; cases h
    | exn _ _ => rw [e1] at h; cases h
    | bad => rw [e1] at h; cases h
theorem ex_tup {k : Nat} (h : PA X es (tEs X.K C ies)) (hn : lenEs ies ≤ 1000) : PE X (.Tuple es k pos) (tE X.K C (.tup ies)) :=
  PE.imp (pe_tup h) fun σ H Q q => by
    obtain ⟨ρ, s, η, r, en, q⟩ := q
    simp only [evE_tup] at q
    refine ⟨ρ, s, η, r, en, ?_⟩
    cases e1 : evEs C ies η s with
    | ok ds s1 =>
      rw [e1] at q
      intro vs ρ1 H1 x rv
      refine ⟨?_, fun p hp => AnsD.tup (AnsD.ext q x) x.rep rv hp⟩
      rw [rv.length, lenEs_ok e1]
      exact Nat.le_trans hn (by rw [sizeLine_eq]; decide)
    | exn _ _ => rw [e1] at q; exact q
    | bad => rw [e1] at q; exact q
end
end PX
end
section
/-! PX, soundness 5: calls, items, slices, lists -/
namespace PX
open PySem PySem.Spec PyProof.Rows L2
/-- a def's promise by the evaluator -/
def spF (K : PySem.W.Frag) (ar : Nat) (g : List D → S → R D) : Sp := fun vs H Q _ => vs.length = ar ∧ ∃ ρ s ds, RS_ K ρ s H ∧ RVs K ρ H vs ds ∧ AnsD K ρ s H Q (g ds s)
section
variable {X : Cx} {C : Ctx} {a b c e : Expr} {es : List Expr} {ia ib ic : E} {ies : Es} {pos p : Pos} {x : PySem.Str}
theorem evCall {f : PySem.Str} {K : PySem.W.Frag} {ρ : List Addr} {s : S} {H : Hp} {σ : L2.St} {η : Env} {Q : VK} {n : Nat} (hl : lenEs ies = n) (r : RS_ K ρ s H) (en : REnv K ρ H σ η) (q : AnsD K ρ s H Q (evE C (.call f ies) η s)) (E0 : XK) :
    tEs K C ies σ H fun vs H1 => spF K n (C.call f) vs H1 Q E0 := by
  simp only [evE_call] at q
  refine ⟨ρ, s, η, r, en, ?_⟩
  cases e1 : evEs C ies η s with
  | ok ds s1 =>
    rw [e1] at q
    intro vs ρ1 H1 x rv
    exact ⟨by rw [rv.length, lenEs_ok e1]; exact hl, ρ1, s1, ds, x.rep, rv, AnsD.ext q x⟩
  | exn _ _ => rw [e1] at q; exact q
  | bad => rw [e1] at q; exact q
theorem ex_call {k n : Nat} {f : Addr} {fd : FuncData} {ps : List PySem.Str} (F : FnOk X.prog X.w X.K X.mg X.base CX0 k f fd ps (spF X.K n (C.call x))) (hr : Room k X.A) (hg : Gl X x) (hm : X.mg x = some (.ref f)) (hk : PySem.W.keepIn X.K (.ref f) = true) (hb : Binds X.K fd ps [])
    (ha : PA X (e :: es) (tEs X.K C ies)) (hl : lenEs ies = n) (hdb : (x == ("__debug__" : PySem.Str)) = false) (he : starEach (e :: es) X.env = (false, eval e X.env) :: starEach es X.env) (hpl : (backTo pos (starEach es X.env)).any (·.1) = false) :
    PE X (.Call (.Name x p) (e :: es) [] pos) (tE X.K C (.call x ies)) :=
  PE.imp (pe_call (E := fun _ _ _ => False) F hr hg hm hk hb .nil pass0 ha hdb he hpl) fun σ H Q q => by
    obtain ⟨ρ, s, η, r, en, q⟩ := q
    have := evCall hl r en q fun _ _ _ => False
    show tEs X.K C ies σ H fun vs H1 => spF X.K n (C.call x) (vs ++ []) H1 Q _
    simp only [List.append_nil]
    exact this
/-- a built-in of values -/
theorem ex_b {id : String} {o : B} (hc : CallR X (.builtin id) (rDs X.K (bcall o))) (hg : Gl X x) (hm : X.mg x = none) (hv : bootBuiltins x = some (.builtin id)) (ha : PA X (e :: es) (tEs X.K C ies)) (hn : x ≠ "__name__") (hdb : (x == ("__debug__" : PySem.Str)) = false)
    (he : starEach (e :: es) X.env = (false, eval e X.env) :: starEach es X.env) (hpl : (backTo pos (starEach es X.env)).any (·.1) = false) : PE X (.Call (.Name x p) (e :: es) [] pos) (tE X.K C (.b o ies)) :=
  PE.imp (pe_callB hc hg hm hv ha hn hdb he hpl) fun σ H Q q => by
    obtain ⟨ρ, s, η, r, en, q⟩ := q
    refine tEs.step r en q fun xs ds s1 ρ1 H1 _ r1 en1 rv q1 => ?_
    exact ⟨ρ1, s1, ds, r1, rv, q1⟩
theorem ex_bTy {T : String} {o : B} (hc : CallR X (.type T) (rDs X.K (bcall o))) (hg : Gl X x) (hm : X.mg x = none) (hv : bootBuiltins x = some (.type T)) (ha : PA X (e :: es) (tEs X.K C ies)) (hn : x ≠ "__name__") (hdb : (x == ("__debug__" : PySem.Str)) = false)
    (he : starEach (e :: es) X.env = (false, eval e X.env) :: starEach es X.env) (hpl : (backTo pos (starEach es X.env)).any (·.1) = false) : PE X (.Call (.Name x p) (e :: es) [] pos) (tE X.K C (.b o ies)) :=
  PE.imp (pe_callTy hc hg hm hv ha hn hdb he hpl) fun σ H Q q => by
    obtain ⟨ρ, s, η, r, en, q⟩ := q
    refine tEs.step r en q fun xs ds s1 ρ1 H1 _ r1 en1 rv q1 => ?_
    exact ⟨ρ1, s1, ds, r1, rv, q1⟩
theorem rvs1 {K : PySem.W.Frag} {ρ : List Addr} {H : Hp} {xs : List V} {d : D} (h : RVs K ρ H xs [d]) : ∃ v, xs = [v] ∧ RV K ρ H v d := by
  cases h with
  | cons h t => cases t; exact ⟨_, rfl, h⟩
theorem rvs2 {K : PySem.W.Frag} {ρ : List Addr} {H : Hp} {xs : List V} {d e : D} (h : RVs K ρ H xs [d, e]) : ∃ v u, xs = [v, u] ∧ RV K ρ H v d ∧ RV K ρ H u e := by
  cases h with
  | cons h t =>
    cases t with
    | cons g t => cases t; exact ⟨_, _, rfl, h, g⟩
theorem items_of {K : PySem.W.Frag} {ρ : List Addr} {s : S} {H : Hp} {v : V} {d : D} {xs : List D} (r : RS_ K ρ s H) (h : RV K ρ H v d) (e : itemsOf s d = some xs) : ∃ a vs, v = .ref a ∧ (SqL K H a vs ∨ SqT K H a vs) ∧ RVs K ρ H vs xs := by
  cases d with
  | tup ds => cases e; obtain ⟨a, vs, rfl, h1, h2⟩ := h.tup_inv; exact ⟨a, vs, rfl, .inr h1, h2⟩
  | loc n => obtain ⟨a, rfl, h1⟩ := h.loc_inv; obtain ⟨vs, h2, h3⟩ := r.lst e h1; exact ⟨a, vs, rfl, .inl h2, h3⟩
  | _ => cases e
theorem b_len : CallR X (.builtin "len") (rDs X.K (bcall .len)) := CallR.imp call_len fun xs H Q q => by
  obtain ⟨ρ, s, ds, r, rv, q⟩ := q
  match ds, rv, q with
  | [], _, q => exact q.elim
  | [d], rv, q =>
    obtain ⟨v, rfl, h⟩ := rvs1 rv
    have seq : ∀ {xs}, itemsOf s d = some xs → AnsD X.K ρ s H Q (.ok (.int xs.length) s) → ∃ x n, [v] = [x] ∧ LenV X.K x H n ∧ Q (.int n) H := fun {xs} e q => by
      obtain ⟨a, vs, rfl, h1, h2⟩ := items_of r h e
      refine ⟨_, vs.length, rfl, ?_, by rw [h2.length]; exact q.same r (.int _)⟩
      rcases h1 with h1 | h1
      · exact .inl ⟨vs, h1, rfl⟩
      · exact .inr ⟨vs, h1, rfl⟩
    cases d with
    | str c =>
      obtain ⟨x', rfl, rfl, _, l⟩ := h.str_inv
      exact ⟨_, x'.length, rfl, ⟨l, rfl⟩, by rw [str_len]; exact AnsD.same q r (.int _)⟩
    | tup l => exact seq rfl q
    | loc n =>
      simp only [bcall, itemsOf] at q
      cases e : S.lst s n with
      | none => rw [e] at q; exact q.elim
      | some xs => rw [e] at q; exact seq e q
    | _ => exact q.elim
  | d :: e :: l, _, q => cases d <;> exact q.elim
theorem b_abs : CallR X (.builtin "abs") (rDs X.K (bcall .abs)) := CallR.imp call_abs fun xs H Q q => by
  obtain ⟨ρ, s, ds, r, rv, q⟩ := q
  match ds, rv, q with
  | [], _, q => exact q.elim
  | [.int i], rv, q =>
    obtain ⟨v, rfl, h⟩ := rvs1 rv
    cases h
    exact ⟨i, rfl, AnsD.same q r (.int _)⟩
  | [.non], _, q | [.bl _], _, q | [.str _], _, q | [.tup _], _, q | [.loc _], _, q => exact q.elim
  | d :: e :: l, _, q => cases d <;> exact q.elim
theorem b_int : CallR X (.type "int") (rDs X.K (bcall .int)) := CallR.imp call_int1 fun xs H Q q => by
  obtain ⟨ρ, s, ds, r, rv, q⟩ := q
  match ds, rv, q with
  | [], _, q => exact q.elim
  | [.int i], rv, q =>
    obtain ⟨v, rfl, h⟩ := rvs1 rv
    cases h
    exact .inl ⟨i, rfl, AnsD.same q r (.int _)⟩
  | [.bl i], rv, q =>
    obtain ⟨v, rfl, h⟩ := rvs1 rv
    cases h
    exact .inr ⟨i, rfl, AnsD.same q r (.int _)⟩
  | [.non], _, q | [.str _], _, q | [.tup _], _, q | [.loc _], _, q => exact q.elim
  | d :: e :: l, _, q => cases d <;> exact q.elim
theorem b_divmod : CallR X (.builtin "divmod") (rDs X.K (bcall .divmod)) := CallR.imp call_divmod fun xs H Q q => by
  obtain ⟨ρ, s, ds, r, rv, q⟩ := q
  match ds, rv, q with
  | [], _, q => exact q.elim
  | [d], _, q => cases d <;> exact q.elim
  | [d, e], rv, q =>
    obtain ⟨v, u, rfl, h, g⟩ := rvs2 rv
    cases d with
    | int i =>
      cases e with
      | int j =>
        cases h; cases g
        simp only [bcall] at q
        split at q
        · rename_i hj
          exact ⟨i, j, rfl, hj, fun p hp => AnsD.tup (vs := [.int (i / j), .int (i % j)]) q r (.cons (.int _) (.cons (.int _) .nil)) hp⟩
        · exact q.elim
      | _ => exact q.elim
    | _ => cases e <;> exact q.elim
  | d :: e :: f :: l, _, q => cases d <;> cases e <;> exact q.elim
theorem b_min2 (hc : X.calm = true) : CallR X (.builtin "min") (rDs X.K (bcall .min2)) := CallR.imp (call_min2 hc) fun xs H Q q => by
  obtain ⟨ρ, s, ds, r, rv, q⟩ := q
  match ds, rv, q with
  | [], _, q => exact q.elim
  | [d], _, q => cases d <;> exact q.elim
  | [d, e], rv, q =>
    obtain ⟨v, u, rfl, h, g⟩ := rvs2 rv
    cases d with
    | int i =>
      cases e with
      | int j => cases h; cases g; exact ⟨i, j, rfl, AnsD.same q r (.int _)⟩
      | _ => exact q.elim
    | _ => cases e <;> exact q.elim
  | d :: e :: f :: l, _, q => cases d <;> cases e <;> exact q.elim
theorem b_max2 (hc : X.calm = true) : CallR X (.builtin "max") (rDs X.K (bcall .max2)) := CallR.imp (call_max2 hc) fun xs H Q q => by
  obtain ⟨ρ, s, ds, r, rv, q⟩ := q
  match ds, rv, q with
  | [], _, q => exact q.elim
  | [d], _, q => cases d <;> exact q.elim
  | [d, e], rv, q =>
    obtain ⟨v, u, rfl, h, g⟩ := rvs2 rv
    cases d with
    | int i =>
      cases e with
      | int j => cases h; cases g; exact ⟨i, j, rfl, AnsD.same q r (.int _)⟩
      | _ => exact q.elim
    | _ => cases e <;> exact q.elim
  | d :: e :: f :: l, _, q => cases d <;> cases e <;> exact q.elim

/-! ### items, slices -/
theorem ixN_eq (n : Nat) (i : Int) : ixN n i = ixOf n i := rfl
theorem ex_ix (ha : PE X a (tE X.K C ia)) (hb : PE X b (tE X.K C ib)) (hs : PlainIx b) : PE X (.Subscript a b pos) (tE X.K C (.ix ia ib)) :=
  PE.imp (pe_ix ix_seq ha hb hs) fun σ H Q q => by
    obtain ⟨ρ, s, η, r, en, q⟩ := q
    refine tE.step r en q fun x d s1 ρ1 H1 _ r1 en1 rv1 q1 => ?_
    refine tE.step r1 en1 q1 fun y e s2 ρ2 H2 x2 r2 en2 rv2 q2 => ?_
    have rx := x2.rv r1 rv1
    obtain ⟨z, e1, q3⟩ := q2.opt
    cases e with
    | int i =>
      cases rv2
      have seq : ∀ {xs}, itemsOf s2 d = some xs → (match ixOf xs.length i with | some k => xs[k]? | none => none) = some z → rIx X.K x (.int i) H2 Q := fun {xs} e2 e1 => by
        obtain ⟨p, vs, rfl, h1, h2⟩ := items_of r2 rx e2
        cases e3 : ixOf xs.length i with
        | none => rw [e3] at e1; cases e1
        | some k =>
          rw [e3] at e1
          obtain ⟨v, h4, h5⟩ := h2.get e1
          have e4 : atI vs i = some v := by
            unfold atI
            rw [h2.length, ixN_eq, e3]
            exact h4
          rcases h1 with h1 | h1
          · exact .inl ⟨p, vs, i, v, rfl, rfl, h1, e4, q3.same r2 h5⟩
          · exact .inr (.inl ⟨p, vs, i, v, rfl, rfl, h1, e4, q3.same r2 h5⟩)
      cases d with
      | str c =>
        obtain ⟨x', rfl, rfl, o, l⟩ := rx.str_inv
        simp only [item] at e1
        split at e1
        · rename_i k e3
          split at e1
          · rename_i cc e4
            cases e1
            refine .inr (.inr ⟨x', i, cc, rfl, rfl, l, ?_, q3.same r2 ?_⟩)
            · unfold atI
              rw [ixN_eq, e3]
              exact e4
            · have := strOk_list o
              have hc := List.all_eq_true.mp this cc (List.mem_of_getElem? e4)
              have q := RV.of_str (K := X.K) (ρ := ρ2) (H := H2) (c := [cc]) (by simpa using hc) (by rw [sizeLine_eq]; simp)
              exact q
          · cases e1
        · cases e1
      | tup l => exact seq rfl e1
      | loc n =>
        simp only [item, itemsOf] at e1
        cases e : S.lst s2 n with
        | none => rw [e] at e1; cases e1
        | some xs => rw [e] at e1; exact seq e e1
      | _ => cases e1
    | _ => cases d <;> cases e1
theorem RVs.cut {K : PySem.W.Frag} {ρ : List Addr} {H : Hp} {vs : List V} {ds : List D} {lo hi : Option Int} (h : RVs K ρ H vs ds) : RVs K ρ H (cutV vs lo hi) (cut ds lo hi) := by
  unfold cutV PX.cut
  rw [h.length]
  have e : ∀ n d o, HT.sIx n d o = match o with | some i => clip n i | none => d := fun n d o => by cases o <;> rfl
  rw [e, e]
  exact (h.drop _).take _
def tO (K : PySem.W.Frag) (C : Ctx) (e : Oe) : TO := fun σ H Q => ∃ ρ s η, RS_ K ρ s H ∧ REnv K ρ H σ η ∧ match evO C e η s with
  | .ok i s' => ∀ (ρ' : List Addr) (H' : Hp), Ext K ρ s H ρ' s' H' → Q i H'
  | _ => False
theorem PO.imp {e : Option Expr} {t t' : TO} (h : PO X e t) (f : ∀ σ H Q, t' σ H Q → t σ H Q) : PO X e t' := ⟨fun pins s σ H Q I q => h.run pins s σ H Q I (f σ H Q q)⟩
theorem o_none : PO X none (tO X.K C .none) := PO.imp po_none fun σ H Q q => by
  obtain ⟨ρ, s, η, r, en, q⟩ := q
  exact q ρ H (Ext.refl r)
theorem o_some (h : PE X a (tE X.K C ia)) : PO X (some a) (tO X.K C (.some ia)) := PO.imp (po_some h) fun σ H Q q => by
  obtain ⟨ρ, s, η, r, en, q⟩ := q
  simp only [evO_some] at q
  refine ⟨ρ, s, η, r, en, ?_⟩
  cases e1 : evE C ia η s with
  | ok d s1 =>
    rw [e1, bind_ok] at q
    intro v ρ1 H1 x rv
    cases d with
    | int j => cases rv; exact ⟨j, rfl, q ρ1 H1 x⟩
    | _ => exact q.elim
  | exn _ _ => rw [e1] at q; exact q.elim
  | bad => rw [e1] at q; exact q.elim
theorem tO.step {K : PySem.W.Frag} {ρ : List Addr} {s : S} {H : Hp} {σ : L2.St} {η : Env} {i : Oe} {f : Option Int → S → R D} {Q : VK} {P : Option Int → Hp → Prop} (r : RS_ K ρ s H) (en : REnv K ρ H σ η) (h : AnsD K ρ s H Q ((evO C i η s).bind f))
    (k : ∀ (o : Option Int) (s1 : S) (ρ1 : List Addr) (H1 : Hp), Ext K ρ s H ρ1 s1 H1 → RS_ K ρ1 s1 H1 → REnv K ρ1 H1 σ η → AnsD K ρ1 s1 H1 Q (f o s1) → P o H1) : tO K C i σ H P := by
  refine ⟨ρ, s, η, r, en, ?_⟩
  cases e1 : evO C i η s with
  | ok d s1 =>
    rw [e1, bind_ok] at h
    exact fun ρ1 H1 x => k d s1 ρ1 H1 x x.rep (en.mono x r) (AnsD.ext h x)
  | exn _ _ => rw [e1] at h; exact h
  | bad => rw [e1] at h; exact h
def rSlAll (K : PySem.W.Frag) : V → Option Int → Option Int → Hp → VK → Prop := fun x lo hi H Q => (rSlL K x lo hi H Q ∨ rSlA K x lo hi H Q) ∨ rSlS x lo hi H Q
theorem sl_all : SlR X (rSlAll X.K) := SlR.or (SlR.or sl_list sl_tupA) sl_str
theorem whole_cut {α : Type} (xs : List α) (lo hi : Option Int) (h : HT.sIx xs.length 0 lo = 0 ∧ HT.sIx xs.length xs.length hi = xs.length) : cut xs lo hi = xs := by
  unfold PX.cut
  have e : ∀ n d o, HT.sIx n d o = match o with | some i => clip n i | none => d := fun n d o => by cases o <;> rfl
  rw [e, e] at h
  obtain ⟨h1, h2⟩ := h
  cases lo <;> cases hi <;> simp only at h1 h2 ⊢ <;> simp [h1, h2]
theorem ex_sl {lo hi : Option Expr} {ilo ihi : Oe} {p2 : Pos} (ha : PE X a (tE X.K C ia)) (hl : PO X lo (tO X.K C ilo)) (hu : PO X hi (tO X.K C ihi)) : PE X (.Subscript a (.Slice lo hi none p2) pos) (tE X.K C (.sl ia ilo ihi)) :=
  PE.imp (pe_slice sl_all ha hl hu) fun σ H Q q => by
    obtain ⟨ρ, s, η, r, en, q⟩ := q
    refine tE.step r en q fun x d s1 ρ1 H1 _ r1 en1 rv1 q1 => ?_
    refine tO.step r1 en1 q1 fun j s2 ρ2 H2 x2 r2 en2 q2 => ?_
    refine tO.step r2 en2 q2 fun j' s3 ρ3 H3 x3 r3 en3 q3 => ?_
    have rx := x3.rv r2 (x2.rv r1 rv1)
    cases d with
    | str c =>
      obtain ⟨x', rfl, rfl, o1, l⟩ := rx.str_inv
      refine .inr ⟨x', rfl, l, AnsD.same q3 r3 ?_⟩
      have el : x'.cps.toList.length = x'.length := (str_len x').symm
      have q := RV.of_str (K := X.K) (ρ := ρ3) (H := H3) (c := PX.cut x'.cps.toList j j') (by
        unfold PX.cut
        refine List.all_eq_true.mpr fun z hz => List.all_eq_true.mp (strOk_list o1) z ?_
        exact List.mem_of_mem_drop (List.mem_of_mem_take hz)) (by
        unfold PX.cut
        rw [List.length_take, List.length_drop]
        omega)
      have e : cutS x' j j' = ⟨(PX.cut x'.cps.toList j j').toArray⟩ := by
        unfold cutS PX.cut
        have e : ∀ n d o, HT.sIx n d o = match o with | some i => clip n i | none => d := fun n d o => by cases o <;> rfl
        rw [e, e]
        simp only [str_len]
        all_goals (cases j <;> cases j' <;> rfl)
      rw [e]; exact q
    | tup l =>
      obtain ⟨p, vs, rfl, hp, rp⟩ := rx.tup_inv
      refine .inl (.inr ⟨p, vs, rfl, hp, fun hw => ?_, fun _ p' hp' => AnsD.tup q3 r3 rp.cut hp'⟩)
      have e : PX.cut l j j' = l := whole_cut l j j' (by rw [← rp.length]; exact hw)
      have q4 : AnsD X.K ρ3 s3 H3 Q (.ok (.tup (PX.cut l j j')) s3) := q3
      rw [e] at q4
      exact q4.same r3 rx
    | loc n =>
      simp only [slice] at q3
      split at q3
      · rename_i xs e4
        obtain ⟨p, rfl, hp⟩ := rx.loc_inv
        obtain ⟨vs, h1, h2⟩ := r3.lst e4 hp
        exact .inl (.inl ⟨p, vs, rfl, h1, fun p' hp' => q3.lst r3 h2.cut hp'⟩)
      · exact q3.elim
    | _ => exact q3.elim
/-! ### isinstance -/
theorem ex_isin1 {t : Ty} {q : Pos} {pt : Pos} (hg : Gl X "isinstance") (hm : X.mg "isinstance" = none) (ha : PE X a (tE X.K C ia)) (hT : PE X b (tC (.ty (tyN t))))
    (h1 : starEach [a, b] X.env = (false, eval a X.env) :: starEach [b] X.env) (h2 : starEach [b] X.env = (false, eval b X.env) :: starEach [] X.env) (h3 : (backTo pos (starEach [b] X.env)).any (·.1) = false) :
    PE X (.Call (.Name "isinstance" p) [a, b] [] pos) (tE X.K C (.isin ia [t])) :=
  PE.imp (pe_callB call_isi hg hm boot_isinstance (pa_cons ha (pa_cons hT pa_nil h2) h1) (by decide) (by decide) h1 h3) fun σ H Q q => by
    obtain ⟨ρ, s, η, r, en, q⟩ := q
    refine tE.step r en q fun x d s1 ρ1 H1 _ r1 en1 rv1 q1 => ?_
    obtain ⟨n, e1, e2, e3⟩ := tyName_of r1 rv1
    refine ⟨x, .ty (tyN t), .type n, .type (tyN t), _, rfl, .ty _, tyx_of r1 rv1 e1, kit_one X.K n e2 t, ?_⟩
    have e4 : ([t].any fun t => isTy s1 d t) = (n == tyN t || (n == "bool" && tyN t == "int")) := by
      simp only [List.any_cons, List.any_nil, Bool.or_false]
      exact e3 t
    rw [← e4]
    exact q1.same r1 (.bl _)
end
end PX
end
section
/-! PX, soundness 6: lists, what walks them -/
namespace PX
open PySem PySem.Spec PyProof.Rows L2
abbrev LW := List D × List (Nat × List D)
/-- the items lie at a value -/
def SeqOf (K : PySem.W.Frag) (ρ : List Addr) (H : Hp) (v : V) (ds : List D) : Prop := ∃ a vs, v = .ref a ∧ (SqL K H a vs ∨ SqT K H a vs) ∧ RVs K ρ H vs ds
def AnsL (K : PySem.W.Frag) (ρ : List Addr) (s : S) (H : Hp) (Q : VK) : R LW → Prop
  | .ok p s' => ∀ (v : V) (ρ' : List Addr) (H' : Hp), Ext K ρ s H ρ' s' H' → SeqOf K ρ' H' v p.1 → Q v H'
  | _ => False
/-- a list that the store does not hold -/
def Fresh (K : PySem.W.Frag) (H : Hp) (ρ' : List Addr) (s' : S) (H' : Hp) (v : V) (ds : List D) : Prop := ∃ a vs, v = .ref a ∧ H a = none ∧ H' a = some (.lst vs) ∧ ¬ Mt ρ' s' a ∧ RVs K ρ' H' vs ds
def AnsF (K : PySem.W.Frag) (ρ : List Addr) (s : S) (H : Hp) (Q : VK) : R LW → Prop
  | .ok p s' => p.2 = [] ∧ ∀ (v : V) (ρ' : List Addr) (H' : Hp), Ext K ρ s H ρ' s' H' → Fresh K H ρ' s' H' v p.1 → Q v H'
  | _ => False
def tL (K : PySem.W.Frag) (C : Ctx) (l : L) : TE := fun σ H Q => ∃ ρ s η, RS_ K ρ s H ∧ REnv K ρ H σ η ∧ AnsL K ρ s H Q (evL C l η s)
def tF (K : PySem.W.Frag) (C : Ctx) (l : L) : TE := fun σ H Q => ∃ ρ s η, RS_ K ρ s H ∧ REnv K ρ H σ η ∧ AnsF K ρ s H Q (evL C l η s)
/-- as fresh, where the evaluator tells no watched place -/
structure PF (X : Cx) (C : Ctx) (e : Expr) (l : L) : Prop where
  pe : PE X e (tF X.K C l)
  nw : ∀ η s p s', evL C l η s = .ok p s' → p.2 = []
section
variable {X : Cx} {C : Ctx} {a b c e : Expr} {es : List Expr} {ia ib ic : E} {ies : Es} {la lb : L} {pos p : Pos} {x : PySem.Str}
theorem Fresh.seq {K : PySem.W.Frag} {H : Hp} {ρ' : List Addr} {s' : S} {H' : Hp} {v : V} {ds : List D} (h : Fresh K H ρ' s' H' v ds) : SeqOf K ρ' H' v ds := by
  obtain ⟨a, vs, e, _, h1, _, h2⟩ := h
  exact ⟨a, vs, e, .inl (SqL.of h1), h2⟩
theorem PF.seq (h : PF X C e la) : PE X e (tL X.K C la) := PE.imp h.pe fun σ H Q q => by
  obtain ⟨ρ, s, η, r, en, q⟩ := q
  refine ⟨ρ, s, η, r, en, ?_⟩
  cases e1 : evL C la η s with
  | ok p s1 => rw [e1] at q; exact ⟨h.nw _ _ _ _ e1, fun v ρ' H' x f => q v ρ' H' x f.seq⟩
  | exn _ _ => rw [e1] at q; exact q
  | bad => rw [e1] at q; exact q
/-- what a list's place shows, from a value -/
theorem seq_ofv (ha : PE X a (tE X.K C ia)) : PE X a (tL X.K C (.ofv ia)) := PE.imp ha fun σ H Q q => by
  obtain ⟨ρ, s, η, r, en, q⟩ := q
  simp only [evL_ofv] at q
  refine ⟨ρ, s, η, r, en, ?_⟩
  cases e1 : evE C ia η s with
  | ok d s1 =>
    rw [e1, bind_ok] at q
    intro v ρ1 H1 x rv
    cases d with
    | tup ds =>
      simp only [seen, opt_some] at q
      obtain ⟨p, vs, rfl, h1, h2⟩ := rv.tup_inv
      exact q _ ρ1 H1 x ⟨p, vs, rfl, .inr h1, h2⟩
    | loc n =>
      simp only [seen] at q
      cases e2 : S.lst s1 n with
      | none => rw [e2] at q; exact q.elim
      | some xs =>
        rw [e2] at q
        obtain ⟨p, rfl, hp⟩ := rv.loc_inv
        obtain ⟨vs, h1, h2⟩ := x.rep.lst e2 hp
        exact q _ ρ1 H1 x ⟨p, vs, rfl, .inl h1, h2⟩
    | _ => exact q.elim
  | exn _ _ => rw [e1] at q; exact q.elim
  | bad => rw [e1] at q; exact q.elim
/-- such a list comes into the store -/
theorem Ext.adopt {K : PySem.W.Frag} {ρ ρ' : List Addr} {s s' : S} {H H' : Hp} {a : Addr} {vs : List V} {ds : List D} (x : Ext K ρ s H ρ' s' H') (hn : H a = none) (ha : H' a = some (.lst vs)) (nm : ¬ Mt ρ' s' a) (rv : RVs K ρ' H' vs ds) :
    Ext K ρ s H (ρ' ++ [a]) (s' ++ [.lst ds]) H' := by
  have r := x.rep
  have pre : ∀ (n : Nat) (b : Addr), ρ'[n]? = some b → (ρ' ++ [a])[n]? = some b := fun n b h => by
    rw [List.getElem?_append_left (List.getElem?_eq_some_iff.mp h).1]; exact h
  have old : ∀ {n : Nat} {o : O}, (s' ++ [O.lst ds])[n]? = some o → s'[n]? = some o ∨ (n = s'.length ∧ o = .lst ds) := fun {n o} h => by
    by_cases hn : n < s'.length
    · rw [List.getElem?_append_left hn] at h; exact .inl h
    · rw [List.getElem?_append_right (by omega)] at h
      have : n - s'.length = 0 := by
        have := (List.getElem?_eq_some_iff.mp h).1
        simp at this; omega
      rw [this] at h
      simp at h
      exact .inr ⟨by omega, h.symm⟩
  have adr : ∀ {n : Nat} {b : Addr}, (ρ' ++ [a])[n]? = some b → n < s'.length → ρ'[n]? = some b := fun {n b} h hn => by
    rw [List.getElem?_append_left (by rw [r.len]; exact hn)] at h; exact h
  have adrN : ∀ {b : Addr}, (ρ' ++ [a])[s'.length]? = some b → b = a := fun {b} h => by
    rw [← r.len] at h
    simp at h; exact h.symm
  have lt : ∀ {n : Nat} {o : O}, s'[n]? = some o → n < s'.length := fun h => (List.getElem?_eq_some_iff.mp h).1
  have mono : ∀ {o : O} {b : Addr}, RO K ρ' H' b o → RO K (ρ' ++ [a]) H' b o := fun {o b} h => by
    cases o with
    | lst zs => obtain ⟨us, h1, h2⟩ := h; exact ⟨us, h1, RVs.mono pre (fun _ _ h => h) h2⟩
    | ro zs => obtain ⟨us, h1, h2⟩ := h; exact ⟨us, h1, RVs.mono pre (fun _ _ h => h) h2⟩
  refine ⟨fun n b h => pre n b (x.pre n b h), fun b ⟨n, ys, h1, h2⟩ => ?_, x.frame, x.dom, ⟨by simp [r.len], fun n o b h1 h2 => ?_, fun n m xs1 ys1 b h1 h2 h3 h4 => ?_⟩⟩
  · rcases old h1 with h | ⟨rfl, _⟩
    · exact x.new b ⟨n, ys, h, adr h2 (lt h)⟩
    · rw [adrN h2]; exact .inr hn
  · rcases old h1 with h | ⟨rfl, rfl⟩
    · exact mono (r.at_ n o b h (adr h2 (lt h)))
    · rw [adrN h2]
      exact ⟨vs, ha, RVs.mono pre (fun _ _ h => h) rv⟩
  · rcases old h1 with g1 | ⟨rfl, _⟩ <;> rcases old h2 with g2 | ⟨rfl, _⟩
    · exact r.inj n m _ _ b g1 g2 (adr h3 (lt g1)) (adr h4 (lt g2))
    · exact absurd ⟨n, _, g1, by have := adr h3 (lt g1); rw [adrN h4] at this; exact this⟩ nm
    · exact absurd ⟨m, _, g2, by have := adr h4 (lt g2); rw [adrN h3] at this; exact this⟩ nm
    · rfl
theorem lst_imp {K : PySem.W.Frag} (nw : ∀ η s p s', evL C la η s = .ok p s' → p.2 = []) {σ : L2.St} {H : Hp} {Q : VK} (q : tE K C (.lst la) σ H Q) : tF K C la σ H Q := by
  obtain ⟨ρ, s, η, r, en, q⟩ := q
  simp only [evE_lst] at q
  refine ⟨ρ, s, η, r, en, ?_⟩
  cases e1 : evL C la η s with
  | ok p s1 =>
    rw [e1] at q
    refine ⟨nw _ _ _ _ e1, fun v ρ' H' x f => ?_⟩
    obtain ⟨a, vs, rfl, h1, h2, h3, h4⟩ := f
    refine q _ (ρ' ++ [a]) H' (x.adopt h1 h2 h3 h4) (.loc ?_)
    rw [← x.rep.len]; simp
  | exn _ _ => rw [e1] at q; exact q
  | bad => rw [e1] at q; exact q
theorem ex_lst (h : PF X C e la) : PE X e (tE X.K C (.lst la)) := PE.imp h.pe fun σ H Q q => lst_imp h.nw q
/-- a new list at a free place -/
theorem AnsF.new {K : PySem.W.Frag} {ρ : List Addr} {s : S} {H : Hp} {Q : VK} {ds : List D} {vs : List V} {p : Addr} {ρ1 : List Addr} {s1 : S} {H1 : Hp} (h : AnsF K ρ s H Q (.ok (ds, []) s1)) (x : Ext K ρ s H ρ1 s1 H1) (hp : H1 p = none) (rv : RVs K ρ1 H1 vs ds) (r : RS_ K ρ s H) : Q (.ref p) (upd H1 p (.lst vs)) := by
  obtain ⟨_, h⟩ := h
  have y := x.trans (Ext.laid (u := .lst vs) x.rep hp)
  refine h _ ρ1 _ y ⟨p, vs, rfl, ?_, upd_same, fun m => ?_, (Ext.laid (u := .lst vs) x.rep hp).rvs x.rep rv⟩
  · exact x.dom p hp
  · obtain ⟨n, xs, g1, g2⟩ := m
    obtain ⟨ws, g3, _⟩ := x.rep.at_ n _ p g1 g2
    rw [hp] at g3; cases g3
theorem pf_lit (h : PA X es (tEs X.K C ies)) (hn : lenEs ies ≤ 1000) : PF X C (.List es pos) (.lit ies) := by
  have nw : ∀ η s p s', evL C (.lit ies) η s = .ok p s' → p.2 = [] := fun η s p s' e => by
    simp only [evL_lit] at e
    cases e1 : evEs C ies η s <;> rw [e1] at e <;> cases e
    rfl
  refine ⟨PE.imp (pe_lst h) fun σ H Q q => ?_, nw⟩
  obtain ⟨ρ, s, η, r, en, q⟩ := q
  simp only [evL_lit] at q
  refine ⟨ρ, s, η, r, en, ?_⟩
  cases e1 : evEs C ies η s with
  | ok ds s1 =>
    rw [e1] at q
    intro vs ρ1 H1 x rv
    refine ⟨?_, fun p hp => AnsF.new q x hp rv r⟩
    rw [rv.length, lenEs_ok e1]
    exact Nat.le_trans hn (by rw [sizeLine_eq]; decide)
  | exn _ _ => rw [e1] at q; exact q
  | bad => rw [e1] at q; exact q
theorem tL.stepF {K : PySem.W.Frag} {ρ : List Addr} {s : S} {H : Hp} {σ : L2.St} {η : Env} {l : L} {f : LW → S → R LW} {Q : VK} {P : V → Hp → Prop} (r : RS_ K ρ s H) (en : REnv K ρ H σ η) (h : AnsF K ρ s H Q ((evL C l η s).bind f))
    (k : ∀ (v : V) (p : LW) (s1 : S) (ρ1 : List Addr) (H1 : Hp), Ext K ρ s H ρ1 s1 H1 → RS_ K ρ1 s1 H1 → REnv K ρ1 H1 σ η → SeqOf K ρ1 H1 v p.1 → AnsF K ρ s H Q (f p s1) → P v H1) : tL K C l σ H P := by
  refine ⟨ρ, s, η, r, en, ?_⟩
  cases e1 : evL C l η s with
  | ok d s1 =>
    rw [e1] at h
    exact fun v ρ1 H1 x rv => k v d s1 ρ1 H1 x x.rep (en.mono x r) rv h
  | exn _ _ => rw [e1] at h; exact h
  | bad => rw [e1] at h; exact h
theorem tL.step {K : PySem.W.Frag} {ρ : List Addr} {s : S} {H : Hp} {σ : L2.St} {η : Env} {l : L} {f : LW → S → R D} {Q : VK} {P : V → Hp → Prop} (r : RS_ K ρ s H) (en : REnv K ρ H σ η) (h : AnsD K ρ s H Q ((evL C l η s).bind f))
    (k : ∀ (v : V) (p : LW) (s1 : S) (ρ1 : List Addr) (H1 : Hp), Ext K ρ s H ρ1 s1 H1 → RS_ K ρ1 s1 H1 → REnv K ρ1 H1 σ η → SeqOf K ρ1 H1 v p.1 → AnsD K ρ1 s1 H1 Q (f p s1) → P v H1) : tL K C l σ H P := by
  refine ⟨ρ, s, η, r, en, ?_⟩
  cases e1 : evL C l η s with
  | ok d s1 =>
    rw [e1] at h
    exact fun v ρ1 H1 x rv => k v d s1 ρ1 H1 x x.rep (en.mono x r) rv (AnsD.ext h x)
  | exn _ _ => rw [e1] at h; exact h
  | bad => rw [e1] at h; exact h
theorem star1 (h1 : starEach [a] X.env = (false, eval a X.env) :: starEach [] X.env) : (backTo pos (starEach ([] : List Expr) X.env)).any (·.1) = false := rfl
/-- list(x) -/
theorem pf_lof (hg : Gl X "list") (hm : X.mg "list" = none) (ha : PE X a (tL X.K C la)) (h1 : starEach [a] X.env = (false, eval a X.env) :: starEach [] X.env) : PF X C (.Call (.Name "list" p) [a] [] pos) (.lof la) := by
  have nw : ∀ η s p s', evL C (.lof la) η s = .ok p s' → p.2 = [] := fun η s p s' e => by
    simp only [evL_lof] at e
    cases e1 : evL C la η s <;> rw [e1] at e <;> cases e
    rfl
  refine ⟨PE.imp (pe_callTy call_list_of hg hm boot_list (pa_cons ha pa_nil h1) (by decide) (by decide) h1 rfl) fun σ H Q q => ?_, nw⟩
  obtain ⟨ρ, s, η, r, en, q⟩ := q
  refine tL.stepF r en q fun v p s1 ρ1 H1 x1 r1 en1 sq q1 => ?_
  obtain ⟨b, vs, rfl, h2, h3⟩ := sq
  exact ⟨b, vs, rfl, h2, fun l hl => AnsF.new q1 x1 hl h3 r⟩
/-- sorted(x) of a list of ints -/
theorem ins_perm (x : Int) : ∀ l : List Int, (ins x l).Perm (x :: l)
  | [] => .refl _
  | y :: r => by
    unfold ins
    split
    · exact .refl _
    · exact (List.Perm.cons y (ins_perm x r)).trans (List.Perm.swap x y r)
theorem isort_perm : ∀ l : List Int, (isort l).Perm l
  | [] => .refl _
  | x :: r => by
    unfold isort
    exact (ins_perm x _).trans (.cons x (isort_perm r))
theorem ins_sorted (x : Int) : ∀ l : List Int, l.Pairwise (· ≤ ·) → (ins x l).Pairwise (· ≤ ·)
  | [], _ => by unfold ins; simp
  | y :: r, h => by
    unfold ins
    have h1 := List.pairwise_cons.mp h
    split
    · rename_i hx
      refine List.pairwise_cons.mpr ⟨fun z hz => ?_, h⟩
      rcases List.mem_cons.mp hz with rfl | hz
      · exact hx
      · exact Int.le_trans hx (h1.1 z hz)
    · rename_i hx
      refine List.pairwise_cons.mpr ⟨fun z hz => ?_, ins_sorted x r h1.2⟩
      rcases List.mem_cons.mp ((ins_perm x r).mem_iff.mp hz) with rfl | hz
      · omega
      · exact h1.1 z hz
theorem isort_sorted : ∀ l : List Int, (isort l).Pairwise (· ≤ ·)
  | [] => List.Pairwise.nil
  | x :: r => by unfold isort; exact ins_sorted x _ (isort_sorted r)
theorem sorted_unique {l m : List Int} (h : l.Perm m) (hl : l.Pairwise (· ≤ ·)) (hm : m.Pairwise (· ≤ ·)) : l = m :=
  h.eq_of_pairwise (fun _ _ _ _ h1 h2 => Int.le_antisymm h1 h2) hl hm
theorem pf_srt (hg : Gl X "sorted") (hm : X.mg "sorted" = none) (ha : PF X C a la) (h1 : starEach [a] X.env = (false, eval a X.env) :: starEach [] X.env) : PF X C (.Call (.Name "sorted" p) [a] [] pos) (.srt la) := by
  have nw : ∀ η s p s', evL C (.srt la) η s = .ok p s' → p.2 = [] := fun η s p s' e => by
    simp only [evL_srt] at e
    cases e1 : evL C la η s with
    | ok q s1 =>
      rw [e1, bind_ok] at e
      cases e2 : sortD q.1 <;> rw [e2] at e <;> cases e
      rfl
    | exn _ _ => rw [e1] at e; cases e
    | bad => rw [e1] at e; cases e
  refine ⟨PE.imp (pe_callB cr_sortedI hg hm boot_sorted (pa_cons ha.pe pa_nil h1) (by decide) (by decide) h1 rfl) fun σ H Q q => ?_, nw⟩
  obtain ⟨ρ, s, η, r, en, q⟩ := q
  simp only [evL_srt] at q
  refine ⟨ρ, s, η, r, en, ?_⟩
  cases e1 : evL C la η s with
  | ok p s1 =>
    rw [e1, bind_ok] at q
    refine ⟨ha.nw _ _ _ _ e1, fun v ρ1 H1 x f => ?_⟩
    obtain ⟨b, vs, rfl, h2, h3, h4, h5⟩ := f
    cases e2 : intsD p.1 with
    | none => rw [sortD, e2] at q; exact q.elim
    | some ns =>
      rw [sortD, e2] at q
      obtain ⟨rfl, _⟩ := ints_rvs h5 e2
      refine ⟨b, ns, rfl, SqL.of h3, fun ns' l hp hs hl => ?_⟩
      have e : ns' = isort ns := sorted_unique (hp.trans (isort_perm ns).symm) hs (isort_sorted ns)
      subst e
      exact AnsF.new q x hl (rvs_ints _) r
  | exn _ _ => rw [e1] at q; exact q
  | bad => rw [e1] at q; exact q
/-- a + b of two such lists -/
theorem pf_cat (ha : PF X C a la) (hb : PF X C b lb) : PF X C (.BinOp a .Add b pos) (.cat la lb) := by
  have nw : ∀ η s p s', evL C (.cat la lb) η s = .ok p s' → p.2 = [] := fun η s p s' e => by
    simp only [evL_cat] at e
    cases e1 : evL C la η s with
    | ok q s1 =>
      rw [e1, bind_ok] at e
      cases e2 : evL C lb η s1 with
      | ok q2 s2 =>
        rw [e2, bind_ok] at e
        split at e
        · cases e; rfl
        · cases e
      | exn _ _ => rw [e2] at e; cases e
      | bad => rw [e2] at e; cases e
    | exn _ _ => rw [e1] at e; cases e
    | bad => rw [e1] at e; cases e
  refine ⟨PE.imp (pe_op op_cat ha.pe hb.pe) fun σ H Q q => ?_, nw⟩
  obtain ⟨ρ, s, η, r, en, q⟩ := q
  simp only [evL_cat] at q
  refine ⟨ρ, s, η, r, en, ?_⟩
  cases e1 : evL C la η s with
  | ok p s1 =>
    rw [e1, bind_ok] at q
    refine ⟨ha.nw _ _ _ _ e1, fun v ρ1 H1 x f => ?_⟩
    obtain ⟨b1, vs, rfl, h2, h3, h4, h5⟩ := f
    refine ⟨ρ1, s1, η, x.rep, en.mono x r, ?_⟩
    cases e2 : evL C lb η s1 with
    | ok p2 s2 =>
      rw [e2, bind_ok] at q
      refine ⟨hb.nw _ _ _ _ e2, fun v ρ2 H2 y g => ?_⟩
      obtain ⟨b2, ws, rfl, g2, g3, g4, g5⟩ := g
      split at q
      · rename_i hz
        have k3 := y.frame _ _ h3 h4
        have k5 := y.rvs x.rep h5
        refine ⟨b1, b2, vs, ws, rfl, rfl, k3, g3, by rw [h5.length, g5.length, ← big_eq]; exact hz, fun t ht => ?_⟩
        exact AnsF.new q (x.trans y) ht (k5.append g5) r
      · exact q.elim
    | exn _ _ => rw [e2] at q; exact q
    | bad => rw [e2] at q; exact q
  | exn _ _ => rw [e1] at q; exact q
  | bad => rw [e1] at q; exact q
/-! ### what takes a list -/
theorem ex_tuple (hg : Gl X "tuple") (hm : X.mg "tuple" = none) (ha : PE X a (tL X.K C la)) (h1 : starEach [a] X.env = (false, eval a X.env) :: starEach [] X.env) : PE X (.Call (.Name "tuple" p) [a] [] pos) (tE X.K C (.lb .tuple la)) :=
  PE.imp (pe_tupleOf hg hm ha h1) fun σ H Q q => by
    obtain ⟨ρ, s, η, r, en, q⟩ := q
    refine tL.step r en q fun v p s1 ρ1 H1 x1 r1 en1 sq q1 => ?_
    obtain ⟨b, vs, rfl, h2, h3⟩ := sq
    rcases h2 with h2 | h2
    · exact .inl ⟨b, vs, rfl, h2, fun t ht => AnsD.tup q1 r1 h3 ht⟩
    · exact .inr ⟨b, vs, rfl, h2, AnsD.same q1 r1 (.tup h2 h3)⟩
theorem PF.list {K : PySem.W.Frag} {ρ : List Addr} {s : S} {H : Hp} {σ : L2.St} {η : Env} {l : L} {f : LW → S → R D} {Q : VK} {P : V → Hp → Prop} (hF : ∀ η s p s', evL C l η s = .ok p s' → p.2 = []) (r : RS_ K ρ s H) (en : REnv K ρ H σ η) (h : AnsD K ρ s H Q ((evL C l η s).bind f))
    (k : ∀ (a : Addr) (vs : List V) (p : LW) (s1 : S) (ρ1 : List Addr) (H1 : Hp), RS_ K ρ1 s1 H1 → SqL K H1 a vs → RVs K ρ1 H1 vs p.1 → AnsD K ρ1 s1 H1 Q (f p s1) → P (.ref a) H1) : tF K C l σ H P := by
  refine ⟨ρ, s, η, r, en, ?_⟩
  cases e1 : evL C l η s with
  | ok d s1 =>
    rw [e1] at h
    refine ⟨hF _ _ _ _ e1, fun v ρ1 H1 x f => ?_⟩
    obtain ⟨b, vs, rfl, h2, h3, h4, h5⟩ := f
    exact k b vs d s1 ρ1 H1 x.rep (SqL.of h3) h5 (AnsD.ext h x)
  | exn _ _ => rw [e1] at h; exact h
  | bad => rw [e1] at h; exact h
theorem ex_any (hc : X.calm = true) (hg : Gl X "any") (hm : X.mg "any" = none) (ha : PF X C a la) (h1 : starEach [a] X.env = (false, eval a X.env) :: starEach [] X.env) : PE X (.Call (.Name "any" p) [a] [] pos) (tE X.K C (.lb .any la)) :=
  PE.imp (pe_callB (cr_any hc) hg hm boot_any (pa_cons ha.pe pa_nil h1) (by decide) (by decide) h1 rfl) fun σ H Q q => by
    obtain ⟨ρ, s, η, r, en, q⟩ := q
    refine PF.list ha.nw r en q fun b vs p s1 ρ1 H1 r1 h2 h3 q1 => ?_
    simp only [lbcall] at q1
    cases e : boolsD p.1 with
    | none => rw [e] at q1; exact q1.elim
    | some bs =>
      rw [e] at q1
      obtain ⟨rfl, _⟩ := bools_rvs h3 e
      exact ⟨b, bs, rfl, h2, AnsD.same q1 r1 (.bl _)⟩
theorem ex_all (hc : X.calm = true) (hg : Gl X "all") (hm : X.mg "all" = none) (ha : PF X C a la) (h1 : starEach [a] X.env = (false, eval a X.env) :: starEach [] X.env) : PE X (.Call (.Name "all" p) [a] [] pos) (tE X.K C (.lb .all la)) :=
  PE.imp (pe_callB (cr_all hc) hg hm boot_all (pa_cons ha.pe pa_nil h1) (by decide) (by decide) h1 rfl) fun σ H Q q => by
    obtain ⟨ρ, s, η, r, en, q⟩ := q
    refine PF.list ha.nw r en q fun b vs p s1 ρ1 H1 r1 h2 h3 q1 => ?_
    simp only [lbcall] at q1
    cases e : boolsD p.1 with
    | none => rw [e] at q1; exact q1.elim
    | some bs =>
      rw [e] at q1
      obtain ⟨rfl, _⟩ := bools_rvs h3 e
      exact ⟨b, bs, rfl, h2, AnsD.same q1 r1 (.bl _)⟩
theorem sumI_eq : ∀ l : List Int, sumI l = l.sum
  | [] => rfl
  | x :: r => by simp only [sumI, List.sum_cons, sumI_eq r]
theorem ex_sum (hc : X.calm = true) (hg : Gl X "sum") (hm : X.mg "sum" = none) (ha : PF X C a la) (h1 : starEach [a] X.env = (false, eval a X.env) :: starEach [] X.env) : PE X (.Call (.Name "sum" p) [a] [] pos) (tE X.K C (.lb .sum la)) :=
  PE.imp (pe_callB (cr_sum hc) hg hm boot_sum (pa_cons ha.pe pa_nil h1) (by decide) (by decide) h1 rfl) fun σ H Q q => by
    obtain ⟨ρ, s, η, r, en, q⟩ := q
    refine PF.list ha.nw r en q fun b vs p s1 ρ1 H1 r1 h2 h3 q1 => ?_
    simp only [lbcall] at q1
    cases e : intsD p.1 with
    | none => rw [e] at q1; exact q1.elim
    | some bs =>
      rw [e] at q1
      obtain ⟨rfl, _⟩ := ints_rvs h3 e
      refine ⟨b, bs, rfl, h2, ?_⟩
      rw [← sumI_eq]
      exact AnsD.same q1 r1 (.int _)
theorem minI_ok : ∀ {l : List Int} {m : Int}, minI l = some m → m ∈ l ∧ ∀ y ∈ l, m ≤ y
  | [], _, h => by simp at h
  | [x], m, h => by simp at h; subst h; simp
  | x :: y :: r, m, h => by
    simp only [minI] at h
    split at h
    · rename_i k e
      cases h
      obtain ⟨h1, h2⟩ := minI_ok e
      by_cases hx : x ≤ k
      · rw [if_pos hx]
        refine ⟨List.mem_cons_self, fun z hz => ?_⟩
        rcases List.mem_cons.mp hz with rfl | hz
        · exact Int.le_refl _
        · exact Int.le_trans hx (h2 z hz)
      · rw [if_neg hx]
        refine ⟨List.mem_cons_of_mem _ h1, fun z hz => ?_⟩
        rcases List.mem_cons.mp hz with rfl | hz
        · omega
        · exact h2 z hz
    · cases h
theorem maxI_ok : ∀ {l : List Int} {m : Int}, maxI l = some m → m ∈ l ∧ ∀ y ∈ l, y ≤ m
  | [], _, h => by simp at h
  | [x], m, h => by simp at h; subst h; simp
  | x :: y :: r, m, h => by
    simp only [maxI] at h
    split at h
    · rename_i k e
      cases h
      obtain ⟨h1, h2⟩ := maxI_ok e
      by_cases hx : k ≤ x
      · rw [if_pos hx]
        refine ⟨List.mem_cons_self, fun z hz => ?_⟩
        rcases List.mem_cons.mp hz with rfl | hz
        · exact Int.le_refl _
        · exact Int.le_trans (h2 z hz) hx
      · rw [if_neg hx]
        refine ⟨List.mem_cons_of_mem _ h1, fun z hz => ?_⟩
        rcases List.mem_cons.mp hz with rfl | hz
        · omega
        · exact h2 z hz
    · cases h
theorem ex_min (hc : X.calm = true) (hg : Gl X "min") (hm : X.mg "min" = none) (ha : PF X C a la) (h1 : starEach [a] X.env = (false, eval a X.env) :: starEach [] X.env) : PE X (.Call (.Name "min" p) [a] [] pos) (tE X.K C (.lb .min la)) :=
  PE.imp (pe_callB (cr_min hc) hg hm boot_min (pa_cons ha.pe pa_nil h1) (by decide) (by decide) h1 rfl) fun σ H Q q => by
    obtain ⟨ρ, s, η, r, en, q⟩ := q
    refine PF.list ha.nw r en q fun b vs p s1 ρ1 H1 r1 h2 h3 q1 => ?_
    simp only [lbcall] at q1
    cases e : intsD p.1 with
    | none => rw [e] at q1; exact q1.elim
    | some bs =>
      rw [e] at q1
      obtain ⟨rfl, _⟩ := ints_rvs h3 e
      simp only at q1
      cases e2 : minI bs with
      | none => rw [e2] at q1; exact q1.elim
      | some m =>
        rw [e2] at q1
        obtain ⟨g1, g2⟩ := minI_ok e2
        refine ⟨b, bs, rfl, h2, List.length_pos_of_mem g1, fun m' k1 k2 => ?_⟩
        have : m' = m := Int.le_antisymm (k2 m g1) (g2 m' k1)
        subst this
        exact AnsD.same q1 r1 (.int _)
theorem ex_max (hc : X.calm = true) (hg : Gl X "max") (hm : X.mg "max" = none) (ha : PF X C a la) (h1 : starEach [a] X.env = (false, eval a X.env) :: starEach [] X.env) : PE X (.Call (.Name "max" p) [a] [] pos) (tE X.K C (.lb .max la)) :=
  PE.imp (pe_callB (cr_max hc) hg hm boot_max (pa_cons ha.pe pa_nil h1) (by decide) (by decide) h1 rfl) fun σ H Q q => by
    obtain ⟨ρ, s, η, r, en, q⟩ := q
    refine PF.list ha.nw r en q fun b vs p s1 ρ1 H1 r1 h2 h3 q1 => ?_
    simp only [lbcall] at q1
    cases e : intsD p.1 with
    | none => rw [e] at q1; exact q1.elim
    | some bs =>
      rw [e] at q1
      obtain ⟨rfl, _⟩ := ints_rvs h3 e
      simp only at q1
      cases e2 : maxI bs with
      | none => rw [e2] at q1; exact q1.elim
      | some m =>
        rw [e2] at q1
        obtain ⟨g1, g2⟩ := maxI_ok e2
        refine ⟨b, bs, rfl, h2, List.length_pos_of_mem g1, fun m' k1 k2 => ?_⟩
        have : m' = m := Int.le_antisymm (g2 m' k1) (k2 m g1)
        subst this
        exact AnsD.same q1 r1 (.int _)
theorem ex_lenL (hg : Gl X "len") (hm : X.mg "len" = none) (ha : PF X C a la) (h1 : starEach [a] X.env = (false, eval a X.env) :: starEach [] X.env) : PE X (.Call (.Name "len" p) [a] [] pos) (tE X.K C (.lb .len la)) :=
  PE.imp (pe_callB call_len hg hm PySem.boot_len (pa_cons ha.pe pa_nil h1) (by decide) (by decide) h1 rfl) fun σ H Q q => by
    obtain ⟨ρ, s, η, r, en, q⟩ := q
    refine PF.list ha.nw r en q fun b vs p s1 ρ1 H1 r1 h2 h3 q1 => ?_
    exact ⟨_, vs.length, rfl, .inl ⟨vs, h2, rfl⟩, by rw [h3.length]; exact AnsD.same q1 r1 (.int _)⟩
/-! ### ranges as values -/
theorem rngI_ok {i j : Int} {l : List D} (h : rngI (.int i) (.int j) = some l) : RgOk i j ∧ l = range i j := by
  unfold rngI at h
  simp only at h
  split at h
  · rename_i c
    cases h
    unfold rngOk at c
    simp only [Bool.and_eq_true, decide_eq_true_eq] at c
    have : (big : Int) = 16777216 := rfl
    exact ⟨⟨by omega, by omega, by omega, by omega, by omega⟩, rfl⟩
  · cases h
theorem rvs_range {K : PySem.W.Frag} {ρ : List Addr} {H : Hp} (i j : Int) : RVs K ρ H (rgV i j) (range i j) := RVs.map (fun k => .int _) _
theorem rngI_inv {d e : D} {l : List D} (h : rngI d e = some l) : ∃ i j, d = .int i ∧ e = .int j := by
  unfold rngI at h
  cases d with
  | int i => cases e with
    | int j => exact ⟨i, j, rfl, rfl⟩
    | _ => cases h
  | _ => cases e <;> cases h
def tR (K : PySem.W.Frag) (C : Ctx) (lo hi : E) : L2.St → Hp → (Int → Int → Hp → Prop) → Prop := fun σ H Q => ∃ ρ s η, RS_ K ρ s H ∧ REnv K ρ H σ η ∧ match (evE C lo η s).bind fun x s => (evE C hi η s).bind fun y s => R.opt (rngI x y) s with
  | .ok l s' => ∀ (i j : Int) (ρ' : List Addr) (H' : Hp), RgOk i j → l = range i j → Ext K ρ s H ρ' s' H' → Q i j H'
  | _ => False
theorem PRg.imp {t t' : L2.St → Hp → (Int → Int → Hp → Prop) → Prop} (h : PRg X e t) (f : ∀ σ H Q, t' σ H Q → t σ H Q) : PRg X e t' := fun pins s σ H Q I q => h pins s σ H Q I (f σ H Q q)
theorem rg_1 (hg : Gl X "range") (hm : X.mg "range" = none) (ha : PE X a (tE X.K C ia)) (h1 : starEach [a] X.env = (false, eval a X.env) :: starEach [] X.env) : PRg X (.Call (.Name "range" p) [a] [] pos) (tR X.K C (.cst (.int 0)) ia) :=
  PRg.imp (prg_1 hg hm ha h1) fun σ H Q q => by
    obtain ⟨ρ, s, η, r, en, q⟩ := q
    simp only [evE_cst, bind_ok] at q
    refine ⟨ρ, s, η, r, en, ?_⟩
    cases e1 : evE C ia η s with
    | ok d s1 =>
      rw [e1, bind_ok] at q
      intro v ρ1 H1 x rv
      cases e2 : rngI (.int 0) d with
      | none => rw [e2] at q; exact q.elim
      | some l =>
        rw [e2] at q
        obtain ⟨i, j, h1, rfl⟩ := rngI_inv e2
        cases h1; cases rv
        obtain ⟨h3, h4⟩ := rngI_ok e2
        exact ⟨j, rfl, q 0 j ρ1 H1 h3 h4 x⟩
    | exn _ _ => rw [e1] at q; exact q.elim
    | bad => rw [e1] at q; exact q.elim
theorem rg_2 (hg : Gl X "range") (hm : X.mg "range" = none) (ha : PE X a (tE X.K C ia)) (hb : PE X b (tE X.K C ib)) (h1 : starEach [a, b] X.env = (false, eval a X.env) :: starEach [b] X.env) (h2 : starEach [b] X.env = (false, eval b X.env) :: starEach [] X.env)
    (h3 : (backTo pos (starEach [b] X.env)).any (·.1) = false) : PRg X (.Call (.Name "range" p) [a, b] [] pos) (tR X.K C ia ib) :=
  PRg.imp (prg_2 hg hm ha hb h1 h2 h3) fun σ H Q q => by
    obtain ⟨ρ, s, η, r, en, q⟩ := q
    refine ⟨ρ, s, η, r, en, ?_⟩
    cases e1 : evE C ia η s with
    | ok d s1 =>
      rw [e1, bind_ok] at q
      intro v ρ1 H1 x rv
      refine ⟨ρ1, s1, η, x.rep, en.mono x r, ?_⟩
      cases e3 : evE C ib η s1 with
      | ok e s2 =>
        rw [e3, bind_ok] at q
        intro u ρ2 H2 y ru
        cases e2 : rngI d e with
        | none => rw [e2] at q; exact q.elim
        | some l =>
          rw [e2] at q
          obtain ⟨i, j, rfl, rfl⟩ := rngI_inv e2
          cases rv; cases ru
          obtain ⟨h3, h4⟩ := rngI_ok e2
          exact ⟨i, j, rfl, rfl, q i j ρ2 H2 h3 h4 (x.trans y)⟩
      | exn _ _ => rw [e3] at q; exact q.elim
      | bad => rw [e3] at q; exact q.elim
    | exn _ _ => rw [e1] at q; exact q.elim
    | bad => rw [e1] at q; exact q.elim
theorem ex_tupR (hc : X.calm = true) (hg : Gl X "tuple") (hm : X.mg "tuple" = none) (h : PRg X e (tR X.K C ia ib)) (h1 : starEach [e] X.env = (false, eval e X.env) :: starEach [] X.env) : PE X (.Call (.Name "tuple" p) [e] [] pos) (tE X.K C (.tupR ia ib)) :=
  PE.imp (pe_tupRg hc hg hm h h1) fun σ H Q q => by
    obtain ⟨ρ, s, η, r, en, q⟩ := q
    simp only [evE_tupR] at q
    refine ⟨ρ, s, η, r, en, ?_⟩
    cases e1 : evE C ia η s with
    | ok d s1 =>
      rw [e1, bind_ok] at q
      rw [bind_ok]
      cases e3 : evE C ib η s1 with
      | ok e s2 =>
        rw [e3, bind_ok] at q
        rw [bind_ok]
        cases e2 : rngI d e with
        | none => rw [e2] at q; exact q.elim
        | some l =>
          rw [e2] at q
          intro i j ρ' H' ok el x
          subst el
          exact ⟨ok, fun t ht => AnsD.tup (AnsD.ext q x) x.rep (rvs_range i j) ht⟩
      | exn _ _ => rw [e3] at q; exact q.elim
      | bad => rw [e3] at q; exact q.elim
    | exn _ _ => rw [e1] at q; exact q.elim
    | bad => rw [e1] at q; exact q.elim
theorem pf_rng (hc : X.calm = true) (hg : Gl X "list") (hm : X.mg "list" = none) (h : PRg X e (tR X.K C ia ib)) (h1 : starEach [e] X.env = (false, eval e X.env) :: starEach [] X.env) : PF X C (.Call (.Name "list" p) [e] [] pos) (.rng ia ib) := by
  have key : ∀ η s, evL C (.rng ia ib) η s = ((evE C ia η s).bind fun x s => (evE C ib η s).bind fun y s => R.opt (rngI x y) s).bind fun l s => .ok (l, []) s := fun η s => by
    simp only [evL_rng]
    cases e1 : evE C ia η s with
    | ok d s1 =>
      rw [bind_ok, bind_ok]
      cases e3 : evE C ib η s1 with
      | ok e s2 =>
        rw [bind_ok, bind_ok]
        cases rngI d e <;> rfl
      | exn _ _ => rfl
      | bad => rfl
    | exn _ _ => rfl
    | bad => rfl
  have nw : ∀ η s p s', evL C (.rng ia ib) η s = .ok p s' → p.2 = [] := fun η s p s' e => by
    rw [key] at e
    cases e1 : ((evE C ia η s).bind fun x s => (evE C ib η s).bind fun y s => R.opt (rngI x y) s) <;> rw [e1] at e <;> cases e
    rfl
  refine ⟨PE.imp (pe_listRg hc hg hm h h1) fun σ H Q q => ?_, nw⟩
  obtain ⟨ρ, s, η, r, en, q⟩ := q
  rw [key] at q
  refine ⟨ρ, s, η, r, en, ?_⟩
  cases e1 : ((evE C ia η s).bind fun x s => (evE C ib η s).bind fun y s => R.opt (rngI x y) s) with
  | ok l s1 =>
    rw [e1, bind_ok] at q
    intro i j ρ' H' ok el x
    subst el
    exact ⟨ok, fun t ht => AnsF.new q x ht (rvs_range i j) r⟩
  | exn _ _ => rw [e1] at q; exact q
  | bad => rw [e1] at q; exact q
end
end PX
end
section
/-! PX, soundness 7: methods of lists, what is walked, comprehensions -/
namespace PX
open PySem PySem.Spec PyProof.Rows L2
section
variable {X : Cx} {C : Ctx} {a b c e o : Expr} {es : List Expr} {ia ib ic io : E} {ies : Es} {la lb : L} {pos p apos : Pos} {x : PySem.Str}
/-! ### methods of lists -/
def rM (K : PySem.W.Frag) (f : M) : V → List V → Hp → VK → Prop := fun x xs H Q => ∃ ρ s d ds, RS_ K ρ s H ∧ RV K ρ H x d ∧ RVs K ρ H xs ds ∧ AnsD K ρ s H Q (mcall f d ds s)
theorem mcall_loc {f : M} {d : D} {ds : List D} {s : S} (h : mcall f d ds s ≠ .bad) : ∃ n xs, d = .loc n ∧ S.mlst s n = some xs := by
  cases d with
  | loc n =>
    cases e : S.mlst s n with
    | none => exact absurd (by simp only [mcall, e]) h
    | some xs => exact ⟨n, xs, rfl, e⟩
  | _ => exact absurd rfl h
theorem AnsD.ne {K : PySem.W.Frag} {ρ : List Addr} {s : S} {H : Hp} {Q : VK} {r : R D} (h : AnsD K ρ s H Q r) : r ≠ .bad := fun e => by rw [e] at h; exact h
/-- the list is written -/
theorem AnsD.wr {K : PySem.W.Frag} {ρ : List Addr} {s : S} {H : Hp} {Q : VK} {n : Nat} {p : Addr} {v : V} {d : D} {xs ys : List D} {vs : List V} (h : AnsD K ρ s H Q (.ok d (setS s n (.lst ys)))) (r : RS_ K ρ s H) (h1 : s[n]? = some (.lst xs)) (h2 : ρ[n]? = some p) (rv : RVs K ρ H vs ys) (rd : RV K ρ H v d) :
    Q v (upd H p (.lst vs)) := by
  have x := Ext.write r h1 h2 rv
  exact h v ρ _ x (x.rv r rd)
theorem m_append : MtR X "list.append" (rM X.K .append) := MtR.imp mt_append fun x xs H Q q => by
  obtain ⟨ρ, s, d, ds, r, rx, rs, q⟩ := q
  obtain ⟨n, ys, rfl, e⟩ := mcall_loc q.ne
  obtain ⟨p, rfl, hp⟩ := rx.loc_inv
  obtain ⟨h1, vs, h2, h3⟩ := r.mlst e hp
  match ds, rs, q with
  | [], _, q => simp only [mcall, e] at q; exact q.elim
  | [d], rs, q =>
    obtain ⟨v, rfl, rd⟩ := rvs1 rs
    simp only [mcall, e] at q
    split at q
    · rename_i hz
      refine ⟨p, vs, v, rfl, rfl, h2, by rw [h3.length, ← big_eq]; exact hz, ?_⟩
      exact AnsD.wr q r h1 hp (h3.append (.cons rd .nil)) .non
    · exact q.elim
  | _ :: _ :: _, _, q => simp only [mcall, e] at q; exact q.elim
theorem m_pop0 : MtR X "list.pop" (fun x xs H Q => xs = [] ∧ rM X.K .pop x xs H Q) := MtR.imp mt_pop fun x xs H Q q => by
  obtain ⟨rfl, ρ, s, d, ds, r, rx, rs, q⟩ := q
  obtain ⟨n, ys, rfl, e⟩ := mcall_loc q.ne
  obtain ⟨p, rfl, hp⟩ := rx.loc_inv
  obtain ⟨h1, vs, h2, h3⟩ := r.mlst e hp
  cases rs
  simp only [mcall, e] at q
  split at q
  · rename_i y ey
    obtain ⟨v, h4, h5⟩ := h3.get ey
    refine ⟨p, vs, v, rfl, rfl, h2, by rw [h3.length]; exact h4, ?_⟩
    exact AnsD.wr q r h1 hp h3.dropLast h5
  · exact q.elim
theorem m_pop1 : MtR X "list.pop" (fun x xs H Q => xs ≠ [] ∧ rM X.K .pop x xs H Q) := MtR.imp mt_popAt fun x xs H Q q => by
  obtain ⟨hne, ρ, s, d, ds, r, rx, rs, q⟩ := q
  obtain ⟨n, ys, rfl, e⟩ := mcall_loc q.ne
  obtain ⟨p, rfl, hp⟩ := rx.loc_inv
  obtain ⟨h1, vs, h2, h3⟩ := r.mlst e hp
  match ds, rs, q with
  | [], rs, q => cases rs; exact absurd rfl hne
  | [.int i], rs, q =>
    obtain ⟨v, rfl, rd⟩ := rvs1 rs
    cases rd
    simp only [mcall, e] at q
    split at q
    · rename_i k ek
      split at q
      · rename_i y ey
        obtain ⟨hk, q⟩ : ys.length ≤ big ∧ AnsD X.K ρ s H Q (.ok y (setS s n (.lst (ys.eraseIdx k)))) := by
          split at q
          · exact ⟨by assumption, q⟩
          · exact q.elim
        obtain ⟨v, h4, h5⟩ := h3.get ey
        obtain ⟨g1, g2, g3, g4⟩ := ixN_seq (n := ys.length) (i := i) (j := k) ek
        have hb : big = 16777216 := rfl
        refine ⟨p, vs, i, k, v, rfl, rfl, h2, by omega, by omega, by rw [h3.length]; exact g1, h4, ?_⟩
        exact AnsD.wr q r h1 hp (h3.eraseIdx k) h5
      · exact q.elim
    · exact q.elim
  | [.non], _, q | [.bl _], _, q | [.str _], _, q | [.tup _], _, q | [.loc _], _, q => simp only [mcall, e] at q; exact q.elim
  | _ :: _ :: _, _, q => simp only [mcall, e] at q; exact q.elim
theorem m_reverse : MtR X "list.reverse" (rM X.K .reverse) := MtR.imp mt_reverse fun x xs H Q q => by
  obtain ⟨ρ, s, d, ds, r, rx, rs, q⟩ := q
  obtain ⟨n, ys, rfl, e⟩ := mcall_loc q.ne
  obtain ⟨p, rfl, hp⟩ := rx.loc_inv
  obtain ⟨h1, vs, h2, h3⟩ := r.mlst e hp
  match ds, rs, q with
  | [], rs, q =>
    cases rs
    simp only [mcall, e] at q
    exact ⟨p, vs, rfl, rfl, h2, AnsD.wr q r h1 hp h3.reverse .non⟩
  | _ :: _, _, q => simp only [mcall, e] at q; exact q.elim
theorem m_clear : MtR X "list.clear" (rM X.K .clear) := MtR.imp mt_clear fun x xs H Q q => by
  obtain ⟨ρ, s, d, ds, r, rx, rs, q⟩ := q
  obtain ⟨n, ys, rfl, e⟩ := mcall_loc q.ne
  obtain ⟨p, rfl, hp⟩ := rx.loc_inv
  obtain ⟨h1, vs, h2, h3⟩ := r.mlst e hp
  match ds, rs, q with
  | [], rs, q =>
    cases rs
    simp only [mcall, e] at q
    exact ⟨p, vs, rfl, rfl, h2, AnsD.wr q r h1 hp .nil .non⟩
  | _ :: _, _, q => simp only [mcall, e] at q; exact q.elim
theorem m_extend : MtR X "list.extend" (rM X.K .extend) := MtR.imp mt_extend fun x xs H Q q => by
  obtain ⟨ρ, s, d, ds, r, rx, rs, q⟩ := q
  obtain ⟨n, ys, rfl, e⟩ := mcall_loc q.ne
  obtain ⟨p, rfl, hp⟩ := rx.loc_inv
  obtain ⟨h1, vs, h2, h3⟩ := r.mlst e hp
  match ds, rs, q with
  | [], _, q => simp only [mcall, e] at q; exact q.elim
  | [.loc m], rs, q =>
    obtain ⟨v, rfl, rd⟩ := rvs1 rs
    obtain ⟨b, rfl, hb⟩ := rd.loc_inv
    simp only [mcall, e] at q
    split at q
    · rename_i zs ez
      split at q
      · rename_i hz
        obtain ⟨_, ws, g2, g3⟩ := r.mlst ez hb
        refine ⟨p, b, vs, ws, rfl, rfl, h2, g2, by rw [h3.length, g3.length, ← big_eq]; exact hz.1, ?_⟩
        exact AnsD.wr q r h1 hp (h3.append g3) .non
      · exact q.elim
    · exact q.elim
  | [.non], _, q | [.bl _], _, q | [.int _], _, q | [.str _], _, q | [.tup _], _, q => simp only [mcall, e] at q; exact q.elim
  | _ :: _ :: _, _, q => simp only [mcall, e] at q; exact q.elim
theorem tyV_loc {K : PySem.W.Frag} {ρ : List Addr} {s : S} {H : Hp} {x : V} {n : Nat} (r : RS_ K ρ s H) (h : RV K ρ H x (.loc n)) : tyV K "list" x H := by
  obtain ⟨p, rfl, hp⟩ := h.loc_inv
  have hn : n < s.length := by
    have := (List.getElem?_eq_some_iff.mp hp).1
    rw [r.len] at this; exact this
  have q := r.at_ n s[n] p (List.getElem?_eq_getElem hn) hp
  refine .inl ⟨rfl, ?_⟩
  cases e : s[n] with
  | lst ys => rw [e] at q; obtain ⟨vs, h1, _⟩ := q; exact ⟨vs, SqL.of h1⟩
  | ro ys => rw [e] at q; obtain ⟨vs, h1, _⟩ := q; exact ⟨vs, h1.sq⟩
theorem ev_loc {f : M} {K : PySem.W.Frag} {ρ : List Addr} {s : S} {H : Hp} {Q : VK} {η : Env} {d : D} {t : S} (h : AnsD K ρ s H Q ((evEs C ies η t).bind fun ds s => mcall f d ds s)) : ∃ n, d = .loc n := by
  cases e1 : evEs C ies η t with
  | ok ds s1 =>
    rw [e1, bind_ok] at h
    obtain ⟨n, _, h, _⟩ := mcall_loc h.ne
    exact ⟨n, h⟩
  | exn _ _ => rw [e1] at h; exact h.elim
  | bad => rw [e1] at h; exact h.elim
theorem ex_m0 {name : PySem.Str} {id : String} {f : M} (slot : Slot "list" name id) (hty : typeOf (.builtin id) = pure (.type "method_descriptor")) (hm : MtR X id (fun x xs H Q => xs = [] ∧ rM X.K f x xs H Q)) (ho : PE X o (tE X.K C io))
    (hbase : attributeBase o name X.env (eval o X.env) = eval o X.env) (hline : (apos.endLine == pos.line) = true) : PE X (.Call (.Attribute o name apos) [] [] pos) (tE X.K C (.m f io .nil)) :=
  PE.imp (pe_bm0 PySem.F.plainAttrs_list slot hty hm ho hbase hline) fun σ H Q q => by
    obtain ⟨ρ, s, η, r, en, q⟩ := q
    refine tE.step r en q fun x d s1 ρ1 H1 _ r1 en1 rv1 q1 => ?_
    obtain ⟨n, rfl⟩ := ev_loc q1
    exact ⟨tyV_loc r1 rv1, rfl, ρ1, s1, _, [], r1, rv1, .nil, q1⟩
theorem ex_m {name : PySem.Str} {id : String} {f : M} (slot : Slot "list" name id) (hty : typeOf (.builtin id) = pure (.type "method_descriptor")) (hm : MtR X id (fun x xs H Q => xs ≠ [] ∧ rM X.K f x xs H Q)) (ho : PE X o (tE X.K C io)) (ha : PA X (e :: es) (tEs X.K C ies)) (hlen : 0 < lenEs ies)
    (hbase : attributeBase o name X.env (eval o X.env) = eval o X.env)
    (hfew : ((backTo pos (starEach (e :: es) X.env)).all (fun x => !x.1) && (backToKw pos (keywordEach [] X.env)).all (fun x => x.1.isSome)
      && decide ((e :: es).length + ([] : List Keyword).length + (if ([] : List Keyword).isEmpty then 0 else 1) < 30)) = true)
    (hline : (apos.endLine == pos.line) = true) (hs : starEach (e :: es) X.env = (false, eval e X.env) :: starEach es X.env) (hplain : (backTo pos (starEach es X.env)).any (·.1) = false) :
    PE X (.Call (.Attribute o name apos) (e :: es) [] pos) (tE X.K C (.m f io ies)) :=
  PE.imp (pe_bm PySem.F.plainAttrs_list slot hty hm ho ha hbase hfew hline hs hplain) fun σ H Q q => by
    obtain ⟨ρ, s, η, r, en, q⟩ := q
    refine tE.step r en q fun x d s1 ρ1 H1 _ r1 en1 rv1 q1 => ?_
    obtain ⟨n, rfl⟩ := ev_loc q1
    refine ⟨tyV_loc r1 rv1, ρ1, s1, η, r1, en1, ?_⟩
    cases e1 : evEs C ies η s1 with
    | ok ds s2 =>
      rw [e1, bind_ok] at q1
      intro vs ρ2 H2 x2 rv2
      refine ⟨fun z => ?_, ρ2, s2, _, ds, x2.rep, x2.rv r1 rv1, rv2, AnsD.ext q1 x2⟩
      subst z
      cases rv2
      have := lenEs_ok e1
      simp at this; omega
    | exn _ _ => rw [e1] at q1; exact q1
    | bad => rw [e1] at q1; exact q1
theorem MtR.ne {id : String} {f : M} (h : MtR X id (rM X.K f)) : MtR X id (fun x xs H Q => xs ≠ [] ∧ rM X.K f x xs H Q) := MtR.imp h fun _ _ _ _ q => q.2
theorem MtR.nil {id : String} {f : M} (h : MtR X id (rM X.K f)) : MtR X id (fun x xs H Q => xs = [] ∧ rM X.K f x xs H Q) := MtR.imp h fun _ _ _ _ q => q.2

/-! ### what is walked -/
/-- at each turn J hands out the next of ds, while what is watched stays -/
def Gives (K : PySem.W.Frag) (ρ0 : List Addr) (s0 : S) (H0 : Hp) (J : L2.It) (W : List (Nat × List D)) (ds : List D) : Prop :=
  ∀ ρ s H, Ext K ρ0 s0 H0 ρ s H → watched W s = true → ∀ i : Nat,
    (∀ d, ds[i]? = some d → J.go i H ∧ ∀ x H', J.yld i H x H' → Ext K ρ s H ρ s H' ∧ RV K ρ H' x d) ∧ (i = ds.length → J.stop i H)
def AnsI (K : PySem.W.Frag) (ρ : List Addr) (s : S) (H : Hp) (Q : L2.It → Hp → Prop) : R LW → Prop
  | .ok p s' => ∀ (J : L2.It) (ρ' : List Addr) (H' : Hp), Ext K ρ s H ρ' s' H' → watched p.2 s' = true → Gives K ρ' s' H' J p.2 p.1 → p.1.length ≤ sizeLine → Q J H'
  | _ => False
def tI (K : PySem.W.Frag) (C : Ctx) (i : It) : TI := fun σ H Q => ∃ ρ s η, RS_ K ρ s H ∧ REnv K ρ H σ η ∧ AnsI K ρ s H Q (evIt C i η s)
theorem PI.imp {tg : Expr} {t t' : TI} (h : PI X tg e t) (f : ∀ σ H Q, t' σ H Q → t σ H Q) : PI X tg e t' := ⟨fun pins s σ H Q I q => h.run pins s σ H Q I (f σ H Q q)⟩
/-- a list or a tuple -/
def iSeq (K : PySem.W.Frag) (tl : TE) : TI := fun σ H R => tl σ H fun x H1 => ∃ a, x = .ref a ∧ ((∃ xs, SqL K H1 a xs ∧ (xs.length ≤ sizeLine → R (Itl K a) H1)) ∨ (∃ xs, SqT K H1 a xs ∧ (xs.length ≤ sizeLine → R (Itt K a) H1)))
theorem pi_seq {tg : Expr} {tl : TE} (hl : PE X e tl) : PI X tg e (iSeq X.K tl) := by
  refine ⟨fun pins s σ H R I h => ?_⟩
  refine thn (hl.run pins s σ H _ I h) fun v s1 ⟨x, H1, I1, r1, q1⟩ => ?_
  obtain ⟨a, e, ⟨xs, hq, q⟩ | ⟨xs, hq, q⟩⟩ := q1
  · subst e
    cases r1
    obtain ⟨its, rv, p, hz⟩ := I1.list hq
    refine wpAny_pyIter_list p.isList ?_
    refine ⟨s1.heap.objs.size, [s1.heap.objs.size], _, _, H1, rfl, I1.kept (t' := s1.toks) fun b o e => Heap.get?_push_of_some _ e, turn_list a _, ⟨_, Heap.get?_push_size _ rfl, rfl, rfl⟩, fun b hb => ?_, q hz⟩
    have e : b = s1.heap.objs.size := by simpa using hb
    subst e
    exact I1.fpOk (Nat.le_refl _) (I1.hok.fresh (Nat.le_refl _))
  · subst e
    cases r1
    obtain ⟨its, rv, p, hz⟩ := I1.tuple hq
    refine wpAny_pyIter_tuple (show s1.heap.IsTuple a its.toArray from p) ?_
    refine ⟨s1.heap.objs.size, [s1.heap.objs.size], _, _, H1, rfl, I1.kept (t' := s1.toks) fun b o e => Heap.get?_push_of_some _ e, turn_tuple a _, ⟨_, Heap.get?_push_size _ rfl, rfl, rfl⟩, fun b hb => ?_, q hz⟩
    have e : b = s1.heap.objs.size := by simpa using hb
    subst e
    exact I1.fpOk (Nat.le_refl _) (I1.hok.fresh (Nat.le_refl _))
/-- how a list lies (no tuple) -/
inductive LiesL (K : PySem.W.Frag) (ρ : List Addr) (s : S) (H : Hp) (a : Addr) (ds : List D) : List (Nat × List D) → Prop
  | fresh {vs : List V} : H a = some (.lst vs) → ¬ Mt ρ s a → RVs K ρ H vs ds → LiesL K ρ s H a ds []
  | loc {n : Nat} : ρ[n]? = some a → S.lst s n = some ds → LiesL K ρ s H a ds [(n, ds)]
theorem LiesL.list {K : PySem.W.Frag} {ρ ρ' : List Addr} {s s' : S} {H H' : Hp} {ad : Addr} {ds : List D} {W : List (Nat × List D)} (h : LiesL K ρ s H ad ds W) (r : RS_ K ρ s H) (x : Ext K ρ s H ρ' s' H') (w : watched W s' = true) :
    ∃ vs, SqL K H' ad vs ∧ RVs K ρ' H' vs ds := by
  cases h with
  | fresh h1 h2 h3 => exact ⟨_, SqL.of (x.frame _ _ h1 h2), x.rvs r h3⟩
  | loc h1 h2 =>
    simp only [watched, List.all_cons, List.all_nil, Bool.and_true] at w
    split at w
    · rename_i xs e
      have := D.beqs_ok w
      subst this
      obtain ⟨vs, h3, h4⟩ := x.rep.lst e (x.pre _ _ h1)
      exact ⟨vs, h3, h4⟩
    · cases w
theorem gives_list {K : PySem.W.Frag} {ρ : List Addr} {s : S} {H : Hp} {ad : Addr} {ds : List D} {W : List (Nat × List D)} (h : LiesL K ρ s H ad ds W) (r : RS_ K ρ s H) : Gives K ρ s H (Itl K ad) W ds := fun ρ1 s1 H1 x w i => by
  obtain ⟨vs, h1, h2⟩ := h.list r x w
  refine ⟨fun d e => ?_, fun e => ⟨vs, h1, by rw [h2.length]; omega⟩⟩
  obtain ⟨v, e1, e2⟩ := h2.get e
  refine ⟨⟨vs, v, h1, e1⟩, fun y H' q => ?_⟩
  obtain ⟨rfl, q⟩ := q
  have := q vs h1
  rw [e1] at this; cases this
  exact ⟨Ext.refl x.rep, e2⟩
theorem gives_tup {K : PySem.W.Frag} {ρ : List Addr} {s : S} {H : Hp} {ad : Addr} {ds : List D} {vs : List V} (h1 : SqT K H ad vs) (h2 : RVs K ρ H vs ds) (r : RS_ K ρ s H) : Gives K ρ s H (Itt K ad) [] ds := fun ρ1 s1 H1 x w i => by
  have h1 := x.tups r h1
  have h2 := x.rvs r h2
  refine ⟨fun d e => ?_, fun e => ⟨vs, h1, by rw [h2.length]; omega⟩⟩
  obtain ⟨v, e1, e2⟩ := h2.get e
  refine ⟨⟨vs, v, h1, e1⟩, fun y H' q => ?_⟩
  obtain ⟨rfl, q⟩ := q
  have := q vs h1
  rw [e1] at this; cases this
  exact ⟨Ext.refl x.rep, e2⟩
/-- for x in a value -/
theorem it_ofv {tg : Expr} (ha : PE X a (tE X.K C ia)) : PI X tg a (tI X.K C (.sq (.ofv ia))) := PI.imp (pi_seq ha) fun σ H R q => by
  obtain ⟨ρ, s, η, r, en, q⟩ := q
  simp only [evIt_sq, evL_ofv] at q
  refine ⟨ρ, s, η, r, en, ?_⟩
  cases e1 : evE C ia η s with
  | ok d s1 =>
    rw [e1, bind_ok] at q
    intro v ρ1 H1 x rv
    cases d with
    | tup ds =>
      obtain ⟨p, vs, rfl, h1, h2⟩ := rv.tup_inv
      exact ⟨p, rfl, .inr ⟨vs, h1, fun hz => q _ ρ1 H1 x rfl (gives_tup h1 h2 x.rep) (by rw [← h2.length]; exact hz)⟩⟩
    | loc n =>
      simp only [seen] at q
      cases e2 : S.lst s1 n with
      | none => rw [e2] at q; exact q.elim
      | some xs =>
        rw [e2] at q
        obtain ⟨p, rfl, hp⟩ := rv.loc_inv
        obtain ⟨vs, h1, h2⟩ := x.rep.lst e2 hp
        refine ⟨p, rfl, .inl ⟨vs, h1, fun hz => q _ ρ1 H1 x ?_ (gives_list (.loc hp e2) x.rep) (by rw [← h2.length]; exact hz)⟩⟩
        simp only [watched, List.all_cons, List.all_nil, Bool.and_true, e2, D.beqs_self]
    | _ => exact q.elim
  | exn _ _ => rw [e1] at q; exact q.elim
  | bad => rw [e1] at q; exact q.elim
/-- for x in a list that is just made -/
theorem it_fresh {tg : Expr} (h : PF X C a la) : PI X tg a (tI X.K C (.sq la)) := PI.imp (pi_seq h.pe) fun σ H R q => by
  obtain ⟨ρ, s, η, r, en, q⟩ := q
  simp only [evIt_sq] at q
  refine ⟨ρ, s, η, r, en, ?_⟩
  cases e1 : evL C la η s with
  | ok p s1 =>
    rw [e1] at q
    have hw := h.nw _ _ _ _ e1
    refine ⟨hw, fun v ρ1 H1 x f => ?_⟩
    obtain ⟨b, vs, rfl, h2, h3, h4, h5⟩ := f
    refine ⟨b, rfl, .inl ⟨vs, SqL.of h3, fun hz => q _ ρ1 H1 x (by rw [hw]; rfl) ?_ (by rw [← h5.length]; exact hz)⟩⟩
    rw [hw]
    exact gives_list (.fresh h3 h4 h5) x.rep
  | exn _ _ => rw [e1] at q; exact q
  | bad => rw [e1] at q; exact q
theorem range_get {i j : Int} {k : Nat} {d : D} (h : (range i j)[k]? = some d) : d = .int (i + k) ∧ k < (j - i).toNat := by
  unfold range at h
  rw [List.getElem?_map] at h
  cases e : (List.range (j - i).toNat)[k]? with
  | none => rw [e] at h; cases h
  | some m =>
    rw [e] at h
    have hk := (List.getElem?_eq_some_iff.mp e).1
    rw [List.length_range] at hk
    rw [List.getElem?_range hk] at e
    cases e; cases h
    exact ⟨rfl, hk⟩
theorem range_len (i j : Int) : (range i j).length = (j - i).toNat := by unfold range; rw [List.length_map, List.length_range]
theorem gives_range {K : PySem.W.Frag} {ρ : List Addr} {s : S} {H : Hp} (i j : Int) : Gives K ρ s H (Itr i (j - i).toNat) [] (range i j) := fun ρ1 s1 H1 x w k => by
  refine ⟨fun d e => ?_, fun e => ?_⟩
  · obtain ⟨rfl, hk⟩ := range_get e
    refine ⟨hk, fun y H' q => ?_⟩
    obtain ⟨rfl, rfl⟩ := q
    exact ⟨Ext.refl x.rep, .int _⟩
  · show (j - i).toNat ≤ k
    rw [range_len] at e; omega
theorem it_rng1 {tg : Expr} (hg : Gl X "range") (hm : X.mg "range" = none) (ha : PE X a (tE X.K C ia)) (h1 : starEach [a] X.env = (false, eval a X.env) :: starEach [] X.env) : PI X tg (.Call (.Name "range" p) [a] [] pos) (tI X.K C (.rng (.cst (.int 0)) ia)) :=
  PI.imp (pi_range1 hg hm (pa_cons ha pa_nil h1) (by rw [h1]; rfl)) fun σ H R q => by
    obtain ⟨ρ, s, η, r, en, q⟩ := q
    simp only [evIt_rng, evE_cst, bind_ok] at q
    refine ⟨ρ, s, η, r, en, ?_⟩
    cases e1 : evE C ia η s with
    | ok d s1 =>
      rw [e1, bind_ok] at q
      intro v ρ1 H1 x rv
      cases e2 : rngI (.int 0) d with
      | none => rw [e2] at q; exact q.elim
      | some l =>
        rw [e2] at q
        obtain ⟨i, j, h1, rfl⟩ := rngI_inv e2
        cases h1; cases rv
        obtain ⟨h3, rfl⟩ := rngI_ok e2
        obtain ⟨b1, b2, b3, b4, b5⟩ := h3
        refine ⟨j, rfl, b3, b4, ?_⟩
        have g := gives_range (K := X.K) (ρ := ρ1) (s := s1) (H := H1) 0 j
        have e0 : (j - 0).toNat = j.toNat := by rw [Int.sub_zero]
        rw [e0] at g
        exact q _ ρ1 H1 x rfl g (by rw [range_len, sizeLine_eq]; omega)
    | exn _ _ => rw [e1] at q; exact q.elim
    | bad => rw [e1] at q; exact q.elim
theorem it_rng2 {tg : Expr} (hg : Gl X "range") (hm : X.mg "range" = none) (ha : PE X a (tE X.K C ia)) (hb : PE X b (tE X.K C ib)) (h1 : starEach [a, b] X.env = (false, eval a X.env) :: starEach [b] X.env) (h2 : starEach [b] X.env = (false, eval b X.env) :: starEach [] X.env) :
    PI X tg (.Call (.Name "range" p) [a, b] [] pos) (tI X.K C (.rng ia ib)) :=
  PI.imp (pi_range2 hg hm (pa_cons ha (pa_cons hb pa_nil h2) h1) (by rw [h1, h2]; rfl) (by rw [h2]; rfl)) fun σ H R q => by
    obtain ⟨ρ, s, η, r, en, q⟩ := q
    simp only [evIt_rng] at q
    refine ⟨ρ, s, η, r, en, ?_⟩
    cases e1 : evE C ia η s with
    | ok d s1 =>
      rw [e1, bind_ok] at q
      intro v ρ1 H1 x rv
      refine ⟨ρ1, s1, η, x.rep, en.mono x r, ?_⟩
      cases e3 : evE C ib η s1 with
      | ok e s2 =>
        rw [e3, bind_ok] at q
        intro u ρ2 H2 y ru
        cases e2 : rngI d e with
        | none => rw [e2] at q; exact q.elim
        | some l =>
          rw [e2] at q
          obtain ⟨i, j, rfl, rfl⟩ := rngI_inv e2
          cases rv; cases ru
          obtain ⟨h3, rfl⟩ := rngI_ok e2
          obtain ⟨b1, b2, b3, b4, b5⟩ := h3
          exact ⟨i, j, rfl, ⟨b1, b2, b3, b4⟩, q _ ρ2 H2 (x.trans y) rfl (gives_range i j) (by rw [range_len, sizeLine_eq]; omega)⟩
      | exn _ _ => rw [e3] at q; exact q.elim
      | bad => rw [e3] at q; exact q.elim
    | exn _ _ => rw [e1] at q; exact q.elim
    | bad => rw [e1] at q; exact q.elim
end

end PX
end
section
/-! PX, soundness 8: targets, comprehensions, statements -/
namespace PX
open PySem PySem.Spec PyProof.Rows L2
def lenTgs : Tgs → Nat
  | .nil => 0
  | .cons _ r => lenTgs r + 1
/-- only these slots may be unlike -/
def Away (σ σ' : L2.St) (is : List Nat) : Prop := ∀ js : List Nat, (∀ i ∈ is, i ∈ js) → L2.wipe σ' js = L2.wipe σ js
theorem Away.refl {σ : L2.St} {is : List Nat} : Away σ σ is := fun _ _ => rfl
theorem Away.trans {σ σ' σ'' : L2.St} {is js : List Nat} (h : Away σ σ' is) (g : Away σ' σ'' js) : Away σ σ'' (is ++ js) := fun ks hk => (g ks fun i hi => hk i (List.mem_append_right _ hi)).trans (h ks fun i hi => hk i (List.mem_append_left _ hi))
theorem wipe_get {σ : L2.St} {j : Nat} : ∀ {is : List Nat}, (L2.wipe σ is)[j]? = if j ∈ is then (σ[j]?).map fun _ => none else σ[j]?
  | [] => by simp [L2.wipe]
  | i :: is => by
    unfold L2.wipe
    by_cases e : i = j
    · subst e
      by_cases h : i < (L2.wipe σ is).length
      · rw [List.getElem?_set_self h]
        rw [L2.wipe_length] at h
        simp [h]
      · have h' : ¬ i < σ.length := by rw [L2.wipe_length] at h; exact h
        rw [List.getElem?_eq_none (by rw [List.length_set]; omega)]
        simp [List.getElem?_eq_none (Nat.le_of_not_lt h')]
    · rw [List.getElem?_set_ne e, wipe_get]
      have : (j ∈ i :: is) ↔ j ∈ is := by simp [Ne.symm e]
      simp only [this]
theorem away_set {σ : L2.St} {i : Nat} {v : Option V} : Away σ (σ.set i v) [i] := fun js hj => by
  have hi := hj i (by simp)
  apply List.ext_getElem?
  intro j
  rw [wipe_get, wipe_get]
  by_cases h : j ∈ js
  · simp only [h, if_true]
    by_cases e : i = j
    · subst e
      by_cases hl : i < σ.length
      · rw [List.getElem?_set_self hl]; simp [hl]
      · rw [List.getElem?_eq_none (by rw [List.length_set]; omega), List.getElem?_eq_none (by omega)]
    · rw [List.getElem?_set_ne e]
  · have e : i ≠ j := fun z => h (z ▸ hi)
    simp only [h, if_false]
    rw [List.getElem?_set_ne e]
theorem wipe_wipe {σ : L2.St} {is : List Nat} : L2.wipe (L2.wipe σ is) is = L2.wipe σ is := by
  apply List.ext_getElem?
  intro j
  rw [wipe_get, wipe_get]
  by_cases h : j ∈ is
  · simp only [h, if_true]
    cases σ[j]? <;> rfl
  · simp only [h, if_false]
def tG (K : PySem.W.Frag) (t : Tg) : TG := fun v σ H Q => ∃ (ρ : List Addr) (η η' : Env) (d : D), REnv K ρ H σ η ∧ RV K ρ H v d ∧ bind1 t d η = some η' ∧ ∀ σ', REnv K ρ H σ' η' → Away σ σ' (slotsT t) → Q σ' H
def tGs (K : PySem.W.Frag) (t : Tgs) : TGs := fun vs σ H Q => ∃ (ρ : List Addr) (η η' : Env) (ds : List D), REnv K ρ H σ η ∧ RVs K ρ H vs ds ∧ bindAll t ds η = some η' ∧ ∀ σ', REnv K ρ H σ' η' → Away σ σ' (slotsTs t) → Q σ' H
section
variable {X : Cx} {C : Ctx} {a b c e o : Expr} {es : List Expr} {ia ib ic io : E} {ies : Es} {la lb : L} {pos p apos : Pos} {x : PySem.Str} {t : Tg} {ts : Tgs} {ii : It}
theorem PG.imp {g g' : TG} (h : PG X e g) (f : ∀ v σ H Q, g' v σ H Q → g v σ H Q) : PG X e g' := ⟨fun pins s σ H v u Q I r q => h.run pins s σ H v u Q I r (f v σ H Q q)⟩
theorem PGs.imp {g g' : TGs} (h : PGs X es g) (f : ∀ v σ H Q, g' v σ H Q → g v σ H Q) : PGs X es g' := ⟨fun pins s σ H v u Q I r q => h.run pins s σ H v u Q I r (f v σ H Q q)⟩
theorem nm_imp {K : PySem.W.Frag} {i : Nat} {v : V} {σ : L2.St} {H : Hp} {Q : L2.St → Hp → Prop} (q : tG K (.nm i) v σ H Q) : gName i v σ H Q := by
  obtain ⟨ρ, η, η', d, en, rv, e, k⟩ := q
  simp only [bind1] at e
  cases e
  exact k _ (en.set rv) away_set
theorem tg_nm {i : Nat} (h : PG X e (gName i)) : PG X e (tG X.K (.nm i)) := PG.imp h fun v σ H Q q => nm_imp q
theorem tgs_nil (h : PGs X [] gNil) : PGs X [] (tGs X.K .nil) := PGs.imp h fun vs σ H Q q => by
  obtain ⟨ρ, η, η', ds, en, rv, e, k⟩ := q
  cases rv with
  | nil => simp only [bindAll] at e; cases e; exact ⟨rfl, k σ en Away.refl⟩
  | cons h t => simp only [bindAll] at e; cases e
theorem tgs_cons (h1 : PG X e (tG X.K t)) (h2 : PGs X es (tGs X.K ts)) (hs : (assignEach (e :: es) X.env).map (·.2) = assign e X.env :: (assignEach es X.env).map (·.2)) : PGs X (e :: es) (tGs X.K (.cons t ts)) :=
  PGs.imp (pgs_cons h1 h2 hs) fun vs σ H Q q => by
    obtain ⟨ρ, η, η', ds, en, rv, e, k⟩ := q
    cases rv with
    | nil => simp only [bindAll] at e; cases e
    | cons h g =>
      rename_i v vs d ds
      simp only [bindAll] at e
      cases e1 : bind1 t d η with
      | none => rw [e1] at e; cases e
      | some η1 =>
        rw [e1] at e
        refine ⟨v, vs, rfl, ρ, η, η1, d, en, h, e1, fun σ1 en1 a1 => ?_⟩
        exact ⟨ρ, η1, η', ds, en1, g, e, fun σ2 en2 a2 => k σ2 en2 (a1.trans a2)⟩
theorem bindAll_len : ∀ {ts : Tgs} {ds : List D} {η η' : Env}, bindAll ts ds η = some η' → ds.length = lenTgs ts
  | .nil, [], _, _, _ => rfl
  | .nil, _ :: _, _, _, h => by simp [bindAll] at h
  | .cons t r, [], _, _, h => by simp [bindAll] at h
  | .cons t r, d :: ds, η, η', h => by
    simp only [bindAll] at h
    cases e1 : bind1 t d η with
    | none => rw [e1] at h; cases h
    | some η1 =>
      rw [e1] at h
      simp only [List.length_cons, lenTgs, bindAll_len h]
theorem tg_tp {k : Nat} (hc : X.calm = true) (h : PGs X es (tGs X.K ts)) (hn : (assignEach es X.env).length = lenTgs ts) (hst : (assignEach es X.env).findIdx? (·.1) = none) : PG X (.Tuple es k pos) (tG X.K (.tp ts)) :=
  PG.imp (pg_tup hc h hn hst) fun v σ H Q q => by
    obtain ⟨ρ, η, η', d, en, rv, e, k⟩ := q
    cases d with
    | tup ds =>
      simp only [bind1] at e
      obtain ⟨p, vs, rfl, h1, h2⟩ := rv.tup_inv
      exact ⟨p, vs, rfl, h1, by rw [h2.length]; exact bindAll_len e, ρ, η, η', ds, en, h2, e, k⟩
    | _ => simp only [bind1] at e; cases e

/-! ### comprehensions -/
/-- a list that the store does not hold is changed -/
theorem Ext.hidden {K : PySem.W.Frag} {ρ ρ' : List Addr} {s s' : S} {H H' : Hp} {D : Addr} {acc : List V} {u : List V} (x : Ext K ρ s H ρ' s' H') (hD : H D = none) (hl : H' D = some (.lst acc)) (nm : ¬ Mt ρ' s' D) : Ext K ρ s H ρ' s' (upd H' D (.lst u)) := by
  have tu : ∀ a vs, SqT K H' a vs → SqT K (upd H' D (.lst u)) a vs := fun a vs h => by
    have key : ∀ o, H' a = some o → (∀ vs, o ≠ .lst vs) → upd H' D (.lst u) a = some o := fun o e ne => by
      rw [upd_ne]; exact e
      intro z; rw [z, hl] at e; cases e; exact ne _ rfl
    rcases h with (h | ⟨o, h⟩) | h
    · exact .inl (.inl (key _ h fun _ z => by cases z))
    · exact .inl (.inr ⟨o, key _ h fun _ z => by cases z⟩)
    · exact .inr h
  refine ⟨x.pre, x.new, fun a o e m => ?_, fun a h => x.dom a (upd_dom h), ⟨x.rep.len, fun n o a h1 h2 => ?_, x.rep.inj⟩⟩
  · rw [upd_ne]; exact x.frame a o e m
    intro z; rw [z, hD] at e; cases e
  · have q := x.rep.at_ n o a h1 h2
    cases o with
    | lst zs =>
      obtain ⟨us, q1, q2⟩ := q
      have na : a ≠ D := fun z => nm ⟨n, zs, h1, z ▸ h2⟩
      exact ⟨us, by rw [upd_ne na]; exact q1, RVs.mono (fun _ _ h => h) tu q2⟩
    | ro zs =>
      obtain ⟨us, q1, q2⟩ := q
      refine ⟨us, ?_, RVs.mono (fun _ _ h => h) tu q2⟩
      rcases q1 with ⟨ob, q1⟩ | q1
      · have na : a ≠ D := fun z => by rw [z, hl] at q1; cases q1
        exact .inl ⟨ob, by rw [upd_ne na]; exact q1⟩
      · exact .inr q1
theorem bind_inv {α β : Type} {r : R α} {f : α → S → R β} {y : β} {s' : S} (h : r.bind f = .ok y s') : ∃ a s, r = .ok a s ∧ f a s = .ok y s' := by
  cases r with
  | ok a s => exact ⟨a, s, rfl, h⟩
  | exn _ _ => cases h
  | bad => cases h
theorem by_inv {α : Type} {o : Option Bool} {a b : R α} {y : α} {s' : S} (h : R.by o a b = .ok y s') : ∃ k, o = some k ∧ (if k = true then a else b) = .ok y s' := by
  cases o with
  | none => cases h
  | some k => cases k <;> exact ⟨_, rfl, h⟩
/-- a test that may lack -/
def tC' (K : PySem.W.Frag) (C : Ctx) (c : Oe) : TT := fun σ H Q => ∃ ρ s η, RS_ K ρ s H ∧ REnv K ρ H σ η ∧ AnsB K ρ s H Q (evC C c η s)
theorem PTs.imp {t t' : TT} (h : PTs X es t) (f : ∀ σ H Q, t' σ H Q → t σ H Q) : PTs X es t' := ⟨fun pins s σ H Q I q => h.run pins s σ H Q I (f σ H Q q)⟩
theorem tc_none : PTs X [] (tC' X.K C .none) := PTs.imp pts_nil fun σ H Q q => by
  obtain ⟨ρ, s, η, r, en, q⟩ := q
  obtain ⟨k, e, q⟩ := q
  cases e
  exact q ρ H (Ext.refl r)
theorem tc_some (h : PT X c (tT X.K C ic)) : PTs X [c] (tC' X.K C (.some ic)) := PTs.imp (pts_one h) fun σ H Q q => by
  obtain ⟨ρ, s, η, r, en, q⟩ := q
  exact ⟨ρ, s, η, r, en, q⟩
theorem comp_nw {own : List Nat} {oc : Oe} {ix : E} : ∀ η s p s', evL C (.comp own t ii oc ix) η s = .ok p s' → p.2 = [] := fun η s p s' e => by
    simp only [evL_comp] at e
    cases e1 : evIt C ii η s with
    | ok q s1 =>
      rw [e1, bind_ok] at e
      cases e2 : compLoop q.2 t (evC C oc) (evE C ix) (wipeV own η) q.1 [] s1 <;> rw [e2] at e <;> cases e
      rfl
    | exn _ _ => rw [e1] at e; cases e
    | bad => rw [e1] at e; cases e
theorem lc_imp {K : PySem.W.Frag} {own : List Nat} {oc : Oe} {ix : E} (hown : ∀ i ∈ slotsT t, i ∈ own) {σ : L2.St} {H : Hp} {Q : VK} (q : tF K C (.comp own t ii oc ix) σ H Q) : tLc (tI K C ii) (tG K t) (tC' K C oc) (tE K C ix) own σ H Q := by
  obtain ⟨ρ, s, η, r, en, q⟩ := q
  simp only [evL_comp] at q
  refine ⟨ρ, s, η, r, en, ?_⟩
  cases e1 : evIt C ii η s with
  | ok p s1 =>
    rw [e1, bind_ok] at q
    obtain ⟨ds, W⟩ := p
    intro J ρ1 H1 x1 w1 gv hz D hD
    simp only at q
    have hz : ds.length ≤ sizeLine := hz
    cases e2 : compLoop W t (evC C oc) (evE C ix) (wipeV own η) ds [] s1 with
    | ok zs sz =>
      rw [e2, bind_ok] at q
      obtain ⟨_, q⟩ := q
      have hD0 : H D = none := x1.dom D hD
      have nm1 : ¬ Mt ρ1 s1 D := fun m => by obtain ⟨vs, e⟩ := x1.rep.mt m; rw [hD] at e; cases e
      have en1 := (en.mono x1 r).wipe own
      refine ⟨fun i m H2 => m = ds.length - i ∧ i ≤ ds.length ∧ ∃ ρ2 s2 acc ys, Ext K ρ1 s1 H1 ρ2 s2 H2 ∧ watched W s2 = true ∧ H2 D = some (.lst acc) ∧ ¬ Mt ρ2 s2 D ∧ RVs K ρ2 H2 acc ys ∧ acc.length ≤ i ∧
        compLoop W t (evC C oc) (evE C ix) (wipeV own η) (ds.drop i) ys s2 = .ok zs sz, ?_, ?_⟩
      · exact ⟨ds.length, rfl, Nat.zero_le _, ρ1, s1, [], [], Ext.laid x1.rep hD, w1, upd_same, nm1, .nil, Nat.le_refl _, by rw [List.drop_zero]; exact e2⟩
      · rintro i m H2 ⟨rfl, hi, ρ2, s2, acc, ys, x2, w2, hacc, nm, ra, hla, hc⟩
        obtain ⟨gg, gs⟩ := gv ρ2 s2 H2 x2 w2 i
        by_cases hlt : i < ds.length
        · have ed : ds[i]? = some ds[i] := List.getElem?_eq_getElem hlt
          obtain ⟨go, yl⟩ := gg _ ed
          refine .inr ⟨go, fun H' => i + 1 ≤ ds.length ∧ ∃ ρ2 s2 acc ys, Ext K ρ1 s1 H1 ρ2 s2 H' ∧ watched W s2 = true ∧ H' D = some (.lst acc) ∧ ¬ Mt ρ2 s2 D ∧ RVs K ρ2 H' acc ys ∧ acc.length ≤ i + 1 ∧
            compLoop W t (evC C oc) (evE C ix) (wipeV own η) (ds.drop (i + 1)) ys s2 = .ok zs sz, fun H' n => ⟨ds.length - (i + 1), by omega, rfl, n.1, n.2⟩, fun v H' y => ?_⟩
          obtain ⟨xe, rv⟩ := yl v H' y
          rw [List.drop_eq_getElem_cons hlt] at hc
          simp only [compLoop] at hc
          split at hc
          · cases hc
          · rename_i η1 eb
            obtain ⟨tv, s3, ec, hc⟩ := bind_inv hc
            obtain ⟨k, et, hc⟩ := by_inv hc
            refine ⟨ρ2, _, η1, ds[i], en1.mono (x2.trans xe) x1.rep, rv, eb, fun σ2 en2 aw => ⟨(aw _ hown).trans wipe_wipe, ?_⟩⟩
            refine ⟨ρ2, s2, η1, xe.rep, en2, ?_⟩
            rw [ec]
            refine ⟨k, et, fun ρ3 H3 x3 => ?_⟩
            have hacc1 := xe.frame D _ hacc nm
            have hacc3 := x3.frame D _ hacc1 nm
            have nm3 : ¬ Mt ρ3 s3 D := fun z => by
              rcases x3.new D z with z | z
              · exact nm z
              · rw [hacc1] at z; cases z
            have ra3 := x3.rvs xe.rep (xe.rvs x2.rep ra)
            have x13 := (x2.trans xe).trans x3
            cases k with
            | false =>
              refine iteF ?_
              obtain ⟨k2, ek, hc⟩ := by_inv hc
              cases k2 with
              | false => cases hc
              | true =>
                injection ek with ek
                exact ⟨by omega, ρ3, s3, acc, ys, x13, ek, hacc3, nm3, ra3, by omega, hc⟩
            | true =>
              refine iteT ?_
              obtain ⟨y, s4, ey, hc⟩ := bind_inv hc
              obtain ⟨k2, ek, hc⟩ := by_inv hc
              cases k2 with
              | false => cases hc
              | true =>
                injection ek with ek
                refine ⟨ρ3, s3, η1, x3.rep, en2.mono x3 xe.rep, ?_⟩
                rw [ey]
                intro u ρ4 H4 x4 ru
                have hacc4 := x4.frame D _ hacc3 nm3
                have nm4 : ¬ Mt ρ4 s4 D := fun z => by
                  rcases x4.new D z with z | z
                  · exact nm3 z
                  · rw [hacc3] at z; cases z
                have x14 := x13.trans x4
                refine ⟨acc, hacc4, by omega, by omega, ρ4, s4, acc ++ [u], ys ++ [y], x14.hidden hD hacc4 nm4, ek, upd_same, nm4, ?_, by rw [List.length_append, List.length_singleton]; omega, hc⟩
                have rr : RVs K ρ4 H4 (acc ++ [u]) (ys ++ [y]) := (x4.rvs x3.rep ra3).append (.cons ru .nil)
                have xh := (Ext.refl x4.rep)
                exact ((x14.hidden (u := acc ++ [u]) hD hacc4 nm4).rep |> fun _ => RVs.mono (fun _ _ h => h) (fun a vs h => by
                  have key : ∀ o, H4 a = some o → (∀ vs, o ≠ .lst vs) → upd H4 D (.lst (acc ++ [u])) a = some o := fun o e ne => by
                    rw [upd_ne]; exact e
                    intro z; rw [z, hacc4] at e; cases e; exact ne _ rfl
                  rcases h with (h | ⟨o, h⟩) | h
                  · exact .inl (.inl (key _ h fun _ z => by cases z))
                  · exact .inl (.inr ⟨o, key _ h fun _ z => by cases z⟩)
                  · exact .inr h) rr)
        · have ei : i = ds.length := by omega
          rw [ei, List.drop_length] at hc
          simp only [compLoop] at hc
          cases hc
          exact .inl ⟨gs ei, q _ ρ2 H2 (x1.trans x2) ⟨D, acc, rfl, hD0, hacc, nm, ra⟩⟩
    | exn _ _ => rw [e2] at q; exact q.elim
    | bad => rw [e2] at q; exact q.elim
  | exn _ _ => rw [e1] at q; exact q
  | bad => rw [e1] at q; exact q
theorem pf_comp {tg iter elt : Expr} {ifs : List Expr} {scope : Scope} {own : List (PySem.Str × Nat)} {oc : Oe} {ix : E} (hown : ∀ i ∈ slotsT t, i ∈ own.map (·.2))
    (h : PE X (.ListComp elt [⟨tg, iter, ifs, 0⟩] scope pos) (tLc (tI X.K C ii) (tG X.K t) (tC' X.K C oc) (tE X.K C ix) (own.map (·.2)))) : PF X C (.ListComp elt [⟨tg, iter, ifs, 0⟩] scope pos) (.comp (own.map (·.2)) t ii oc ix) := ⟨PE.imp h fun σ H Q q => lc_imp hown q, comp_nw⟩
end

/-! ### statements -/
def AnsS (K : PySem.W.Frag) (ρ : List Addr) (s : S) (H : Hp) (D : Ends) : RS → Prop
  | .nxt η s' => ∀ (σ' : L2.St) (ρ' : List Addr) (H' : Hp), Ext K ρ s H ρ' s' H' → REnv K ρ' H' σ' η → D.nx σ' H'
  | .ret d s' => ∀ (v : V) (ρ' : List Addr) (H' : Hp), Ext K ρ s H ρ' s' H' → RV K ρ' H' v d → D.rt v H'
  | .brk η s' => ∀ (σ' : L2.St) (ρ' : List Addr) (H' : Hp), Ext K ρ s H ρ' s' H' → REnv K ρ' H' σ' η → D.bk σ' H'
  | .cnt η s' => ∀ (σ' : L2.St) (ρ' : List Addr) (H' : Hp), Ext K ρ s H ρ' s' H' → REnv K ρ' H' σ' η → D.ct σ' H'
  | _ => False
def tS (K : PySem.W.Frag) (C : Ctx) (a : Stm) : TS := fun D σ H => ∃ ρ s η, RS_ K ρ s H ∧ REnv K ρ H σ η ∧ AnsS K ρ s H D (evS C a η s)
def tB (K : PySem.W.Frag) (C : Ctx) (b : Blk) : TS := fun D σ H => ∃ ρ s η, RS_ K ρ s H ∧ REnv K ρ H σ η ∧ AnsS K ρ s H D (evB C b η s)
theorem AnsS.ext {K : PySem.W.Frag} {ρ ρ' : List Addr} {s s' : S} {H H' : Hp} {D : Ends} {r : RS} (h : AnsS K ρ s H D r) (x : Ext K ρ s H ρ' s' H') : AnsS K ρ' s' H' D r := by
  cases r with
  | nxt η t => exact fun σ2 ρ2 H2 y rv => h σ2 ρ2 H2 (x.trans y) rv
  | ret d t => exact fun v ρ2 H2 y rv => h v ρ2 H2 (x.trans y) rv
  | brk η t => exact fun σ2 ρ2 H2 y rv => h σ2 ρ2 H2 (x.trans y) rv
  | cnt η t => exact fun σ2 ρ2 H2 y rv => h σ2 ρ2 H2 (x.trans y) rv
  | exn _ _ _ => exact h
  | bad => exact h
section
variable {X : Cx} {C : Ctx} {a b c e o : Expr} {es : List Expr} {ia ib ic io : E} {ies : Es} {pos p apos : Pos} {t : Tg} {ii : It} {st : Stmt} {sts sts2 : List Stmt} {is : Stm} {bl bl2 : Blk}
theorem PS.imp {t t' : TS} (h : PS X st t) (f : ∀ D σ H, t' D σ H → t D σ H) : PS X st t' := ⟨fun pins s σ H D I q => h.run pins s σ H D I (f D σ H q)⟩
theorem PSs.imp {t t' : TS} (h : PSs X sts t) (f : ∀ D σ H, t' D σ H → t D σ H) : PSs X sts t' := ⟨fun pins s σ H D I q => h.run pins s σ H D I (f D σ H q)⟩
/-- an expression is evaluated, then the rest of the statement -/
theorem tE.stepS {K : PySem.W.Frag} {ρ : List Addr} {s : S} {H : Hp} {σ : L2.St} {η : Env} {i : E} {f : D → S → RS} {D : Ends} {P : V → Hp → Prop} (r : RS_ K ρ s H) (en : REnv K ρ H σ η) (h : AnsS K ρ s H D ((evE C i η s).run η f))
    (k : ∀ (x : V) (d : PX.D) (s1 : S) (ρ1 : List Addr) (H1 : Hp), Ext K ρ s H ρ1 s1 H1 → RS_ K ρ1 s1 H1 → REnv K ρ1 H1 σ η → RV K ρ1 H1 x d → AnsS K ρ1 s1 H1 D (f d s1) → P x H1) : tE K C i σ H P := by
  refine ⟨ρ, s, η, r, en, ?_⟩
  cases e1 : evE C i η s with
  | ok d s1 =>
    rw [e1] at h
    exact fun v ρ1 H1 x rv => k v d s1 ρ1 H1 x x.rep (en.mono x r) rv (AnsS.ext h x)
  | exn _ _ => rw [e1] at h; exact h
  | bad => rw [e1] at h; exact h
theorem tT.stepS {K : PySem.W.Frag} {ρ : List Addr} {s : S} {H : Hp} {σ : L2.St} {η : Env} {i : E} {g g' : PX.D → S → RS} {D : Ends} {P : Bool → Hp → Prop} (r : RS_ K ρ s H) (en : REnv K ρ H σ η)
    (h : AnsS K ρ s H D ((evE C i η s).run η fun d s => RS.by (truth s d) (g d s) (g' d s)))
    (k : ∀ (k : Bool) (d : PX.D) (s1 : S) (ρ1 : List Addr) (H1 : Hp), Ext K ρ s H ρ1 s1 H1 → RS_ K ρ1 s1 H1 → REnv K ρ1 H1 σ η → AnsS K ρ1 s1 H1 D (if k then g d s1 else g' d s1) → P k H1) : tT K C i σ H P := by
  refine ⟨ρ, s, η, r, en, ?_⟩
  cases e1 : evE C i η s with
  | ok d s1 =>
    rw [e1, run_ok] at h
    cases e2 : truth s1 d with
    | none => rw [e2] at h; exact h.elim
    | some k0 =>
      rw [e2] at h
      refine ⟨k0, e2, fun ρ1 H1 x => k k0 d s1 ρ1 H1 x x.rep (en.mono x r) (AnsS.ext (r := if k0 then g d s1 else g' d s1) ?_ x)⟩
      cases k0 <;> exact h
  | exn _ _ => rw [e1] at h; exact h
  | bad => rw [e1] at h; exact h
theorem bk_nil : PSs X [] (tB X.K C .nil) := PSs.imp pss_nil fun D σ H q => by
  obtain ⟨ρ, s, η, r, en, q⟩ := q
  exact q σ ρ H (Ext.refl r) en
theorem bk_cons (h1 : PS X st (tS X.K C is)) (h2 : PSs X sts (tB X.K C bl)) : PSs X (st :: sts) (tB X.K C (.cons is bl)) := PSs.imp (pss_cons h1 h2) fun D σ H q => by
  obtain ⟨ρ, s, η, r, en, q⟩ := q
  refine ⟨ρ, s, η, r, en, ?_⟩
  have e : evB C (.cons is bl) η s = (evS C is η s).thn fun η s => evB C bl η s := rfl
  rw [e] at q
  cases e1 : evS C is η s with
  | nxt η1 s1 => rw [e1] at q; exact fun σ1 ρ1 H1 x en1 => ⟨ρ1, s1, η1, x.rep, en1, AnsS.ext q x⟩
  | ret _ _ => rw [e1] at q; exact q
  | brk _ _ => rw [e1] at q; exact q
  | cnt _ _ => rw [e1] at q; exact q
  | exn _ _ _ => rw [e1] at q; exact q
  | bad => rw [e1] at q; exact q
theorem st_pass : PS X (.Pass pos) (tS X.K C .pass) := PS.imp ps_pass fun D σ H q => by
  obtain ⟨ρ, s, η, r, en, q⟩ := q
  exact q σ ρ H (Ext.refl r) en
theorem st_brk : PS X (.Break pos) (tS X.K C .brk) := PS.imp ps_break fun D σ H q => by
  obtain ⟨ρ, s, η, r, en, q⟩ := q
  exact q σ ρ H (Ext.refl r) en
theorem st_cnt : PS X (.Continue pos) (tS X.K C .cnt) := PS.imp ps_continue fun D σ H q => by
  obtain ⟨ρ, s, η, r, en, q⟩ := q
  exact q σ ρ H (Ext.refl r) en
theorem st_never : PS X st (tS X.K C (.rais ia)) := PS.imp ps_never fun D σ H q => by
  obtain ⟨ρ, s, η, r, en, q⟩ := q
  exact q
theorem st_expr (he : PE X e (tE X.K C ia)) (hs : swapsWith e none pos.line X.env = pure false) : PS X (.Expr e pos) (tS X.K C (.expr ia)) := PS.imp (ps_expr he hs) fun D σ H q => by
  obtain ⟨ρ, s, η, r, en, q⟩ := q
  refine tE.stepS r en q fun x d s1 ρ1 H1 _ r1 en1 rv1 q1 => ?_
  exact q1 σ ρ1 H1 (Ext.refl r1) en1
theorem st_ret (he : PE X e (tE X.K C ia)) : PS X (.Return (some e) pos) (tS X.K C (.ret ia)) := PS.imp (ps_ret he) fun D σ H q => by
  obtain ⟨ρ, s, η, r, en, q⟩ := q
  refine tE.stepS r en q fun x d s1 ρ1 H1 _ r1 en1 rv1 q1 => ?_
  exact q1 x ρ1 H1 (Ext.refl r1) rv1
theorem st_retN : PS X (.Return none pos) (tS X.K C .retN) := PS.imp ps_retN fun D σ H q => by
  obtain ⟨ρ, s, η, r, en, q⟩ := q
  exact q .non ρ H (Ext.refl r) .non
theorem asg_end {K : PySem.W.Frag} {D : Ends} {σ : L2.St} {H : Hp} (q : tS K C (.asg t ia) D σ H) : tAsg (tE K C ia) (tG K t) D σ H := by
  obtain ⟨ρ, s, η, r, en, q⟩ := q
  refine tE.stepS r en q fun x d s1 ρ1 H1 _ r1 en1 rv1 q1 => ?_
  cases e1 : bind1 t d η with
  | none => rw [e1] at q1; exact q1.elim
  | some η1 =>
    rw [e1] at q1
    exact ⟨ρ1, η, η1, d, en1, rv1, e1, fun σ' en' _ => q1 σ' ρ1 H1 (Ext.refl r1) en'⟩
theorem st_asg {tg : Expr} (he : PE X e (tE X.K C ia)) (hg : PG X tg (tG X.K t)) (hs : swapsWithSole [tg] e pos.line X.env = pure false) (hw : swappedStores [tg] e X.env = pure none) (h1 : (assignEach [tg] X.env).map (·.2) = [assign tg X.env]) : PS X (.Assign [tg] e pos) (tS X.K C (.asg t ia)) :=
  PS.imp (ps_asg he hg hs hw h1) fun D σ H q => asg_end q
theorem st_if (hc : PT X c (tT X.K C ic)) (ha : PSs X sts (tB X.K C bl)) (hb : PSs X sts2 (tB X.K C bl2)) : PS X (.If c sts sts2 pos) (tS X.K C (.ife ic bl bl2)) := PS.imp (ps_if hc ha hb) fun D σ H q => by
  obtain ⟨ρ, s, η, r, en, q⟩ := q
  refine tT.stepS r en q fun k d s1 ρ1 H1 _ r1 en1 q1 => ?_
  cases k with
  | true => exact iteT ⟨ρ1, s1, η, r1, en1, q1⟩
  | false => exact iteF ⟨ρ1, s1, η, r1, en1, q1⟩
theorem RSby {K : PySem.W.Frag} {ρ : List Addr} {s : S} {H : Hp} {D : Ends} {b : Bool} {x y : RS} (h : AnsS K ρ s H D (RS.by (some b) x y)) : AnsS K ρ s H D (if b then x else y) := by cases b <;> exact h
theorem st_while (hp : PassesOwn (model X.prog X.w) X.A X.env X.xe) (hc : PT X c (tT X.K C ic)) (hb : PSs X sts (tB X.K C bl)) : PS X (.While c sts [] pos) (tS X.K C (.whl ic bl)) := PS.imp (ps_while hp hc hb) fun D σ H q => by
  obtain ⟨ρ, s, η, r, en, q⟩ := q
  have q : AnsS X.K ρ s H D (whileLoop (evE C ic) (evB C bl) C.fuel η s) := q
  refine ⟨fun m σ1 H1 => ∃ ρ1 s1 η1, RS_ X.K ρ1 s1 H1 ∧ REnv X.K ρ1 H1 σ1 η1 ∧ AnsS X.K ρ1 s1 H1 D (whileLoop (evE C ic) (evB C bl) m η1 s1), ⟨C.fuel, ρ, s, η, r, en, q⟩, ?_⟩
  rintro m σ1 H1 ⟨ρ1, s1, η1, r1, en1, q1⟩
  cases m with
  | zero => exact q1.elim
  | succ m =>
    simp only [whileLoop] at q1
    refine tT.stepS r1 en1 q1 fun k d s2 ρ2 H2 x2 r2 en2 q2 => ?_
    cases k with
    | false => exact iteF (q2 σ1 ρ2 H2 (Ext.refl r2) en2)
    | true =>
      refine iteT ⟨fun σ' H' => ∃ ρ1 s1 η1, RS_ X.K ρ1 s1 H' ∧ REnv X.K ρ1 H' σ' η1 ∧ AnsS X.K ρ1 s1 H' D (whileLoop (evE C ic) (evB C bl) m η1 s1), fun σ' H' n => ⟨m, Nat.lt_succ_self m, n⟩, ρ2, s2, η1, r2, en2, ?_⟩
      have q2 : AnsS X.K ρ2 s2 H2 D ((evB C bl η1 s2).turn fun η2 s2 => whileLoop (evE C ic) (evB C bl) m η2 s2) := q2
      cases e1 : evB C bl η1 s2 with
      | nxt η3 s3 => rw [e1] at q2; exact fun σ3 ρ3 H3 x3 en3 => ⟨ρ3, s3, η3, x3.rep, en3, AnsS.ext q2 x3⟩
      | cnt η3 s3 => rw [e1] at q2; exact fun σ3 ρ3 H3 x3 en3 => ⟨ρ3, s3, η3, x3.rep, en3, AnsS.ext q2 x3⟩
      | brk η3 s3 => rw [e1] at q2; exact q2
      | ret _ _ => rw [e1] at q2; exact q2
      | exn _ _ _ => rw [e1] at q2; exact q2
      | bad => rw [e1] at q2; exact q2
theorem st_for {tg iter : Expr} (hp : PassesOwn (model X.prog X.w) X.A X.env X.xe) (hc : X.calm = true) (hi : PI X tg iter (tI X.K C ii)) (hg : PG X tg (tG X.K t)) (hb : PSs X sts (tB X.K C bl)) (hs : ∀ x, foldedSetIterable iter X.env x = pure x) :
    PS X (.For tg iter sts [] pos) (tS X.K C (.fr t ii bl)) := PS.imp (ps_for hp hc hi hg hb hs) fun D σ H q => by
  obtain ⟨ρ, s, η, r, en, q⟩ := q
  refine ⟨ρ, s, η, r, en, ?_⟩
  have q : AnsS X.K ρ s H D ((evIt C ii η s).run η fun p s => forLoop p.2 t (evB C bl) p.1 η s) := q
  cases e1 : evIt C ii η s with
  | ok p s1 =>
    rw [e1, run_ok] at q
    obtain ⟨ds, W⟩ := p
    intro J ρ1 H1 x1 w1 gv hz
    simp only at q gv w1
    refine ⟨fun i m σ2 H2 => m = ds.length - i ∧ i ≤ ds.length ∧ ∃ ρ2 s2 η2, Ext X.K ρ1 s1 H1 ρ2 s2 H2 ∧ REnv X.K ρ2 H2 σ2 η2 ∧ watched W s2 = true ∧ AnsS X.K ρ2 s2 H2 D (forLoop W t (evB C bl) (ds.drop i) η2 s2), ?_, ?_⟩
    · exact ⟨ds.length, rfl, Nat.zero_le _, ρ1, s1, η, Ext.refl x1.rep, en.mono x1 r, w1, by rw [List.drop_zero]; exact AnsS.ext q x1⟩
    · rintro i m σ2 H2 ⟨rfl, hi, ρ2, s2, η2, x2, en2, w2, hc⟩
      obtain ⟨gg, gs⟩ := gv ρ2 s2 H2 x2 w2 i
      by_cases hlt : i < ds.length
      · have ed : ds[i]? = some ds[i] := List.getElem?_eq_getElem hlt
        obtain ⟨go, yl⟩ := gg _ ed
        refine .inr ⟨go, fun σ' H' => i + 1 ≤ ds.length ∧ ∃ ρ2 s2 η2, Ext X.K ρ1 s1 H1 ρ2 s2 H' ∧ REnv X.K ρ2 H' σ' η2 ∧ watched W s2 = true ∧ AnsS X.K ρ2 s2 H' D (forLoop W t (evB C bl) (ds.drop (i + 1)) η2 s2),
          fun σ' H' n => ⟨ds.length - (i + 1), by omega, rfl, n.1, n.2⟩, fun v H' y => ?_⟩
        obtain ⟨xe, rv⟩ := yl v H' y
        rw [List.drop_eq_getElem_cons hlt] at hc
        simp only [forLoop] at hc
        split at hc
        · exact hc.elim
        · rename_i η3 eb
          refine ⟨ρ2, η2, η3, ds[i], en2.mono xe x2.rep, rv, eb, fun σ3 en3 _ => ⟨ρ2, s2, η3, xe.rep, en3, ?_⟩⟩
          have hc := AnsS.ext hc xe
          have nx : ∀ {η4 s4}, AnsS X.K ρ2 s2 H' D (RS.by (some (watched W s4)) (forLoop W t (evB C bl) (ds.drop (i + 1)) η4 s4) .bad) → ∀ (σ4 : L2.St) (ρ4 : List Addr) (H4 : Hp), Ext X.K ρ2 s2 H' ρ4 s4 H4 → REnv X.K ρ4 H4 σ4 η4 →
              i + 1 ≤ ds.length ∧ ∃ ρ2 s2 η2, Ext X.K ρ1 s1 H1 ρ2 s2 H4 ∧ REnv X.K ρ2 H4 σ4 η2 ∧ watched W s2 = true ∧ AnsS X.K ρ2 s2 H4 D (forLoop W t (evB C bl) (ds.drop (i + 1)) η2 s2) := fun {η4 s4} h σ4 ρ4 H4 x4 en4 => by
            have h := RSby h
            cases ew : watched W s4 with
            | false => rw [ew] at h; exact h.elim
            | true => rw [ew] at h; exact ⟨by omega, ρ4, s4, η4, (x2.trans xe).trans x4, en4, ew, AnsS.ext h x4⟩
          cases e3 : evB C bl η3 s2 with
          | nxt η4 s4 => rw [e3] at hc; exact nx hc
          | cnt η4 s4 => rw [e3] at hc; exact nx hc
          | brk η4 s4 => rw [e3] at hc; exact hc
          | ret _ _ => rw [e3] at hc; exact hc
          | exn _ _ _ => rw [e3] at hc; exact hc
          | bad => rw [e3] at hc; exact hc
      · have ei : i = ds.length := by omega
        rw [ei, List.drop_length] at hc
        exact .inl ⟨gs ei, hc σ2 ρ2 H2 (Ext.refl x2.rep) en2⟩
  | exn _ _ => rw [e1] at q; exact q
  | bad => rw [e1] at q; exact q
/-- o[i] = e -/
theorem st_setIx {p2 : Pos} (he : PE X e (tE X.K C ia)) (ho : PE X o (tE X.K C io)) (hi : PE X b (tE X.K C ib)) (hs : swapsWithSole [.Subscript o b p2] e pos.line X.env = pure false) (hw : swappedStores [.Subscript o b p2] e X.env = pure none)
    (hx : PG X (.Subscript o b p2) (gSub (tE X.K C io) (tE X.K C ib) rSetL)) : PS X (.Assign [.Subscript o b p2] e pos) (tS X.K C (.setIx io ib ia)) := PS.imp (ps_asg he hx hs hw) fun D σ H q => by
  obtain ⟨ρ, s, η, r, en, q⟩ := q
  refine tE.stepS r en q fun v d s1 ρ1 H1 _ r1 en1 rv1 q1 => ?_
  refine tE.stepS r1 en1 q1 fun x dx s2 ρ2 H2 x2 r2 en2 rv2 q2 => ?_
  refine tE.stepS r2 en2 q2 fun y dy s3 ρ3 H3 x3 r3 en3 rv3 q3 => ?_
  cases e1 : setItem dx dy d s3 with
  | none => rw [e1] at q3; exact q3.elim
  | some s4 =>
    rw [e1] at q3
    cases dx with
    | loc n =>
      cases dy with
      | int i =>
        cases rv3
        obtain ⟨p, rfl, hp⟩ := (x3.rv r2 rv2).loc_inv
        simp only [setItem] at e1
        split at e1
        · rename_i xs e2
          split at e1
          · rename_i k e3
            cases e1
            obtain ⟨h1, vs, h2, h3⟩ := r3.mlst e2 hp
            refine ⟨p, vs, i, k, rfl, rfl, h2, by rw [h3.length]; exact e3, ?_⟩
            have rd := x3.rv r2 (x2.rv r1 rv1)
            have xw := Ext.write r3 h1 hp (RVs.set rd k h3)
            exact q3 σ ρ3 _ xw (en3.mono xw r3)
          · cases e1
        · cases e1
      | _ => cases e1
    | _ => cases dy <;> cases e1
theorem ipAll_add : PIp X .Add (fun x y H Q => ∃ ρ s d e, RS_ X.K ρ s H ∧ RV X.K ρ H x d ∧ RV X.K ρ H y e ∧ (∃ i j, d = .int i ∧ e = .int j) ∧ AnsD X.K ρ s H Q (bin .add d e s)) := fun pins s σ H x y v u Q I rx ry q =>
  ip_add pins s σ H x y v u Q I rx ry (by
    obtain ⟨ρ, s, d, e, r, hx, hy, ⟨i, j, rfl, rfl⟩, q⟩ := q
    cases hx; cases hy
    exact ⟨i, j, rfl, rfl, AnsD.same q r (.int _)⟩)
end
end PX
end
section
/-! PX, from the model's syntax to the IR -/
namespace PX
open PySem (Expr Stmt Scope Arguments Arg NameKind Const Operator CmpOp UnaryOp BoolOp Comprehension Pos)

structure GI where
  fns : List (PySem.Str × Nat)
  glo : List PySem.Str
/-- the built-ins' names that the text may not bind -/
def bltNames : List PySem.Str := ["len", "isinstance", "range", "tuple", "list", "int", "str", "abs", "divmod", "min", "max", "any", "all", "sum", "sorted", "enumerate", "zip", "reversed", "bool"]

def slot (N : List PySem.Str) (x : PySem.Str) : Option Nat := N.findIdx? (· == x)
def noDbg (x : PySem.Str) : Bool := !(x == ("__debug__" : PySem.Str)) && !(x == ("__classdict__" : PySem.Str)) && !(x == ("__name__" : PySem.Str))
def isVis (sc : Scope) (x : PySem.Str) : Bool := match sc.names.lookup x with
  | some .local => true | some .cell => true | some .free => true | _ => false
def isLoc (sc : Scope) (x : PySem.Str) : Bool := match sc.names.lookup x with
  | some .local => true | some .cell => true | _ => false
def isGl (sc : Scope) (x : PySem.Str) : Bool := match sc.names.lookup x with
  | some .globalImplicit => true | _ => false
def constD : Const → Option D
  | .none => some .non
  | .bool b => some (.bl b)
  | .int i => some (.int i)
  | .str x => if x.cps.all (· < 0x110000) && decide (x.length ≤ 10000) then some (.str x.cps.toList) else none
  | _ => none
def toEs (f : Expr → Option E) : List Expr → Option Es
  | [] => some .nil
  | e :: r => match f e, toEs f r with
    | some i, some is => some (.cons i is)
    | _, _ => none
def bop : Operator → Option BOp
  | .Add => some .add | .Sub => some .sub | .FloorDiv => some .fdiv | .Mod => some .mod | .RShift => some .shr | .Mult => some .mul | _ => none
def cop : CmpOp → Option COp
  | .Eq => some .eq | .NotEq => some .ne | .Lt => some .lt | .LtE => some .le | .Gt => some .gt | .GtE => some .ge | .In => some .mem | .NotIn => some .nmem | _ => none
def tyOf (x : PySem.Str) : Option Ty :=
  if x == ("int" : PySem.Str) then some .int else if x == ("bool" : PySem.Str) then some .bool else if x == ("str" : PySem.Str) then some .str
  else if x == ("tuple" : PySem.Str) then some .tuple else if x == ("list" : PySem.Str) then some .list else none
def mOf (x : PySem.Str) : Option M :=
  if x == ("append" : PySem.Str) then some .append else if x == ("pop" : PySem.Str) then some .pop else if x == ("extend" : PySem.Str) then some .extend
  else if x == ("reverse" : PySem.Str) then some .reverse else if x == ("clear" : PySem.Str) then some .clear else none
mutual
def tgOf (ok : PySem.Str → Bool) (N : List PySem.Str) : Nat → Expr → Option Tg
  | 0, _ => none
  | n + 1, e => match e with
    | .Name x _ => if ok x then (slot N x).map .nm else none
    | .Tuple es _ _ => (tgsOf ok N n es).map .tp
    | _ => none
def tgsOf (ok : PySem.Str → Bool) (N : List PySem.Str) : Nat → List Expr → Option Tgs
  | 0, _ => none
  | n + 1, es => match es with
    | [] => some .nil
    | e :: r => match tgOf ok N n e, tgsOf ok N n r with
      | some t, some ts => some (.cons t ts)
      | _, _ => none
end
def cBool (f : Expr → Option E) (op : BoolOp) : List Expr → Option E
  | [] => none
  | [x] => f x
  | x :: y :: r => match f x, cBool f op (y :: r) with
    | some i, some j => some (match op with | .And => .and i j | .Or => .or i j)
    | _, _ => none
def isNoneE : Expr → Bool
  | .Constant .none _ _ => true
  | _ => false
def cCmp (f : Expr → Option E) (a : Expr) (ops : List CmpOp) (bs : List Expr) : Option E := match ops, bs with
  | [.Is], [b] => if isNoneE b then (f a).map .isn else none
  | [.IsNot], [b] => if isNoneE b then (f a).map .isnn else none
  | [o], [b] => match cop o, f a, f b with
    | some o, some i, some j => some (.cmp o i j)
    | _, _, _ => none
  | [o, o'], [b, c] => match cop o, cop o', f a, f b, f c with
    | some o, some o', some i, some j, some k => some (.chn o o' i j k)
    | _, _, _, _, _ => none
  | _, _ => none
/-- a range's call: its ends -/
def cRng (f : Expr → Option E) (sc : Scope) : Expr → Option (E × E)
  | .Call (.Name x _) as kw _ => if x == ("range" : PySem.Str) && isGl sc x && kw.isEmpty then (match as with
    | [a] => (f a).map fun i => (.cst (.int 0), i)
    | [a, b] => match f a, f b with
      | some i, some j => some (i, j)
      | _, _ => none
    | _ => none) else none
  | _ => none
/-- zip of two values -/
def cZip (f : Expr → Option E) (sc : Scope) (tup : Bool) : Expr → Option It
  | .Call (.Name x _) [a] kw _ => if x == ("enumerate" : PySem.Str) && isGl sc x && kw.isEmpty && tup then (f a).map .enu else none
  | .Call (.Name x _) as kw _ => if x == ("zip" : PySem.Str) && isGl sc x && kw.isEmpty && tup then (match as with
    | [a, b] => match f a, f b with
      | some i, some j => some (.zip i j)
      | _, _ => none
    | _ => none) else none
  | _ => none
def isTupE : Expr → Bool
  | .Tuple _ _ _ => true
  | _ => false
/-- a list that is just made -/
def cFresh (n : Nat) (f : Scope → Expr → Option E) (g : Expr → Option L) (l : Expr → Option L) (it : Bool → Expr → Option It) (sc : Scope) (N : List PySem.Str) (e : Expr) : Option L := match e with
  | .List es _ => if es.length ≤ 1000 then (toEs (f sc) es).map .lit else none
  | .BinOp a .Add b _ => match g a, g b with
    | some x, some y => some (.cat x y)
    | _, _ => none
  | .ListComp elt gs scope _ => match gs with
    | [⟨tg, iter, ifs, as⟩] => if as == 0 then (match tgOf (isLoc scope) N n tg, it (isTupE tg) iter, f (L2.relS scope sc) elt with
      | some t, some i, some x =>
        let own := slotNames N n tg
        if L2.blkC N sc scope own && (slotsT t).all (fun j => own.any fun p => p.2 == j) then (match ifs with
          | [] => some (.comp (own.map (·.2)) t i .none x)
          | [c] => match f (L2.relS scope sc) c with
            | some ic => some (.comp (own.map (·.2)) t i (.some ic) x)
            | none => none
          | _ => none) else none
      | _, _, _ => none) else none
    | _ => none
  | .Call (.Name x _) [a] kw _ => if kw.isEmpty && isGl sc x then
      (if x == ("list" : PySem.Str) then (match cRng (f sc) sc a with
        | some p => some (.rng p.1 p.2)
        | none => (l a).map .lof)
      else if x == ("sorted" : PySem.Str) then (g a).map .srt
      else none) else none
  | _ => none
where
  /-- a target's names with their places -/
  slotNames (N : List PySem.Str) : Nat → Expr → List (PySem.Str × Nat)
    | 0, _ => []
    | n + 1, e => match e with
      | .Name x _ => match slot N x with
        | some i => [(x, i)]
        | none => []
      | .Tuple es _ _ => es.flatMap (slotNames N n)
      | _ => []
def cCall (G : GI) (f : Expr → Option E) (g : Expr → Option L) (l : Expr → Option L) (sc : Scope) (x : PySem.Str) (as : List Expr) : Option E :=
  if !(isGl sc x && noDbg x) then none else match G.fns.lookup x with
  | some k => match as with
    | [] => none
    | a :: r => match toEs f (a :: r) with
      | some es => if (a :: r).length == k then some (.call x es) else none
      | none => none
  | none =>
    if x == ("len" : PySem.Str) then (match as with
      | [a] => (match g a with
        | some y => some (.lb .len y)
        | none => (f a).map fun i => .b .len (.cons i .nil))
      | _ => none)
    else if x == ("int" : PySem.Str) then (match as with | [a] => (f a).map fun i => .b .int (.cons i .nil) | _ => none)
    else if x == ("abs" : PySem.Str) then (match as with | [a] => (f a).map fun i => .b .abs (.cons i .nil) | _ => none)
    else if x == ("divmod" : PySem.Str) then (match as with
      | [a, b] => (match f a, f b with | some i, some j => some (.b .divmod (.cons i (.cons j .nil))) | _, _ => none)
      | _ => none)
    else if x == ("min" : PySem.Str) then (match as with
      | [a, b] => (match f a, f b with | some i, some j => some (.b .min2 (.cons i (.cons j .nil))) | _, _ => none)
      | [a] => (g a).map (.lb .min)
      | _ => none)
    else if x == ("max" : PySem.Str) then (match as with
      | [a, b] => (match f a, f b with | some i, some j => some (.b .max2 (.cons i (.cons j .nil))) | _, _ => none)
      | [a] => (g a).map (.lb .max)
      | _ => none)
    else if x == ("tuple" : PySem.Str) then (match as with
      | [a] => (match cRng f sc a with
        | some p => some (.tupR p.1 p.2)
        | none => (l a).map (.lb .tuple))
      | _ => none)
    else if x == ("any" : PySem.Str) then (match as with | [a] => (g a).map (.lb .any) | _ => none)
    else if x == ("all" : PySem.Str) then (match as with | [a] => (g a).map (.lb .all) | _ => none)
    else if x == ("sum" : PySem.Str) then (match as with | [a] => (g a).map (.lb .sum) | _ => none)
    else if x == ("isinstance" : PySem.Str) then (match as with
      | [a, .Name t _] => (match tyOf t, f a with
        | some t', some i => if isGl sc t then some (.isin i [t']) else none
        | _, _ => none)
      | [a, .Tuple [.Name t _, .Name u _] _ _] => (match tyOf t, tyOf u, f a with
        | some t', some u', some i => if isGl sc t && isGl sc u then some (.isin i [t', u']) else none
        | _, _, _ => none)
      | _ => none)
    else none
def cSub (f : Expr → Option E) (a i : Expr) : Option E := match i with
  | .Slice lo hi st _ => match st with
    | some _ => none
    | none => match f a, cO f lo, cO f hi with
      | some x, some u, some v => some (.sl x u v)
      | _, _, _ => none
  | i => match f a, f i with
    | some x, some y => some (.ix x y)
    | _, _ => none
where cO (f : Expr → Option E) : Option Expr → Option Oe
  | none => some .none
  | some e => (f e).map .some
def cMeth (f : Expr → Option E) (o : Expr) (name : PySem.Str) (ap : Pos) (as : List Expr) (cp : Pos) : Option E :=
  if ap.endLine == cp.line && decide (as.length ≤ 5) then (match mOf name, f o, toEs f as with
    | some m, some i, some es => match m, es with
      | .pop, es => some (.m .pop i es)
      | .reverse, .nil => some (.m .reverse i .nil)
      | .clear, .nil => some (.m .clear i .nil)
      | .append, .cons a r => some (.m .append i (.cons a r))
      | .extend, .cons a r => some (.m .extend i (.cons a r))
      | _, _ => none
    | _, _, _ => none) else none
/-- o.index(a): of a list, of a constant tuple -/
def cIdx (G : GI) (f : Expr → Option E) (sc : Scope) (o : Expr) (name : PySem.Str) (ap : Pos) (as : List Expr) (cp : Pos) : Option E :=
  if name == ("index" : PySem.Str) && ap.endLine == cp.line then (match as with
    | [a] => (match gName G sc o with
      | some x => (f a).map fun i => .idxG x i
      | none => (match f o, f a with
        | some i, some j => some (.idx i j)
        | _, _ => none))
    | _ => none) else none
where
  gName (G : GI) (sc : Scope) : Expr → Option PySem.Str
    | .Name x _ => if isGl sc x && G.glo.contains x && noDbg x then some x else none
    | _ => none
mutual
def compE (G : GI) : Nat → Scope → List PySem.Str → Expr → Option E
  | 0, _, _, _ => none
  | n + 1, sc, N, e => match compF G n sc N e with
    | some l => some (.lst l)
    | none => match e with
      | .Name x _ => if noDbg x then (if isVis sc x then (slot N x).map .var else if isGl sc x && G.glo.contains x then some (.glo x) else none) else none
      | .Constant c _ _ => (constD c).map .cst
      | .Tuple es _ _ => if es.length ≤ 1000 then (toEs (compE G n sc N) es).map .tup else none
      | .BinOp a op b _ => match bop op, compE G n sc N a, compE G n sc N b with
        | some o, some i, some j => some (.bin o i j)
        | _, _, _ => none
      | .UnaryOp .Not a _ => (compE G n sc N a).map .not
      | .UnaryOp .USub a _ => (compE G n sc N a).map .neg
      | .BoolOp op vs _ => match vs with
        | x :: y :: r => cBool (compE G n sc N) op (x :: y :: r)
        | _ => none
      | .Compare a ops bs _ => cCmp (compE G n sc N) a ops bs
      | .IfExp c a b _ => match compE G n sc N c, compE G n sc N a, compE G n sc N b with
        | some i, some j, some k => some (.ife i j k)
        | _, _, _ => none
      | .Call (.Name x _) as kw _ => if kw.isEmpty then cCall G (compE G n sc N) (compF G n sc N) (compL G n sc N) sc x as else none
      | .Call (.Attribute o name ap) as kw cp => if kw.isEmpty then (match cIdx G (compE G n sc N) sc o name ap as cp with | some i => some i | none => cMeth (compE G n sc N) o name ap as cp) else none
      | .Subscript a i _ => cSub (compE G n sc N) a i
      | _ => none
def compF (G : GI) : Nat → Scope → List PySem.Str → Expr → Option L
  | 0, _, _, _ => none
  | n + 1, sc, N, e => cFresh n (fun sc e => compE G n sc N e) (compF G n sc N) (compL G n sc N) (compI G n sc N) sc N e
def compL (G : GI) : Nat → Scope → List PySem.Str → Expr → Option L
  | 0, _, _, _ => none
  | n + 1, sc, N, e => match compF G n sc N e with
    | some l => some l
    | none => (compE G n sc N e).map .ofv
def compI (G : GI) : Nat → Scope → List PySem.Str → Bool → Expr → Option It
  | 0, _, _, _, _ => none
  | n + 1, sc, N, tup, e => match cRng (compE G n sc N) sc e with
    | some p => some (.rng p.1 p.2)
    | none => match compF G n sc N e with
      | some l => some (.sq l)
      | none => match cZip (compE G n sc N) sc tup e with
        | some i => some i
        | none => (compE G n sc N e).map fun i => .sq (.ofv i)
end
/-- is the assignment's value a comprehension that is stored within it -/
def swC (sc : Scope) : Expr → Expr → Bool
  | .Name y py, .ListComp _ _ s pos => (match sc.names.lookup y with | some .local => true | _ => false) && py.line == pos.line && !(s.names.any fun (n, k) => n == y && (k == .local || k == .cell))
  | _, _ => false
mutual
def compS (G : GI) : Nat → Nat → Scope → List PySem.Str → Stmt → Option Stm
  | _, 0, _, _, _ => none
  | d, n + 1, sc, N, s => match s with
    | .Pass _ => some .pass
    | .Break _ => some .brk
    | .Continue _ => some .cnt
    | .Expr e _ => match e with
      | .ListComp _ _ _ _ => none
      | e => (compE G d sc N e).map .expr
    | .Return (some e) _ => (compE G d sc N e).map .ret
    | .Return none _ => some .retN
    | .Assign [.Subscript o i _] e _ => match compE G d sc N e, compE G d sc N o, compE G d sc N i with
      | some x, some y, some z => (match i with | .Slice _ _ _ _ => none | _ => some (.setIx y z x))
      | _, _, _ => none
    | .Assign [tg] e _ => if isTupE tg && isTupE e then none else match tgOf (isLoc sc) N d tg, compE G d sc N e with
      | some t, some i => some (.asg t i)
      | _, _ => none
    | .AugAssign (.Name x _) op e _ => if isLoc sc x then (match slot N x, bop op, compE G d sc N e with
      | some i, some o, some y => some (.aug i o y)
      | _, _, _ => none) else none
    | .For tg iter b [] _ => match tgOf (isLoc sc) N d tg, compI G d sc N (isTupE tg) iter, compB G d n sc N b with
      | some t, some i, some b => some (.fr t i b)
      | _, _, _ => none
    | .While c b [] _ => match compE G d sc N c, compB G d n sc N b with
      | some i, some b => some (.whl i b)
      | _, _ => none
    | .If c a b _ => match compE G d sc N c, compB G d n sc N a, compB G d n sc N b with
      | some i, some a, some b => some (.ife i a b)
      | _, _, _ => none
    | .Raise _ _ _ => some (.rais (.cst .non))
    | _ => none
def compB (G : GI) : Nat → Nat → Scope → List PySem.Str → List Stmt → Option Blk
  | _, 0, _, _, _ => none
  | d, n + 1, sc, N, b => match b with
    | [] => some .nil
    | s :: r => match compS G d n sc N s, compB G d n sc N r with
      | some i, some is => some (.cons i is)
      | _, _ => none
end
def scopeC (N ps : List PySem.Str) (sc : Scope) : Bool :=
  (match sc.kind with | .function => true | _ => false) && !sc.isCoroutine && !sc.isGenerator && decide N.Nodup && decide (N.take ps.length = ps) && ps.all (isLoc sc) && sc.names.all fun y => !(match y.2 with | .free => true | _ => false)
/-- a def of the text: its names by slot are N -/
def compD (G : GI) (d : Nat) (N : List PySem.Str) : Stmt → Option (PySem.Str × Fn)
  | .FunctionDef x ⟨[], as, none, [], [], none, []⟩ body [] _ _ sc _ _ _ =>
    let ps := as.map (·.arg)
    if scopeC N ps sc then (match compB G d 200 sc N body with
      | some b => some (x, ⟨ps.length, N.length, b⟩)
      | none => none) else none
  | _ => none
end PX
end
section
/-! PX, soundness 9: what compiles is sound -/
namespace PX
open PySem PySem.Spec PyProof.Rows L2
/-! ### plain syntax -/
def plainE : Expr → Bool
  | .Starred _ _ => false
  | .Set _ _ _ => false
  | .ListComp _ _ _ _ => true
  | .SetComp _ _ _ _ => false
  | .DictComp _ _ _ _ _ => false
  | .Slice _ _ _ _ => false
  | _ => true
theorem cFresh_plain {n : Nat} {f g l it sc N e y} (h : cFresh n f g l it sc N e = some y) : plainE e = true := by
  cases e <;> first | rfl | (simp [cFresh] at h)
theorem compF_plain {G : GI} {n : Nat} {sc : Scope} {N : List PySem.Str} {e : Expr} {l : L} (h : compF G n sc N e = some l) : plainE e = true := by
  cases n with
  | zero => simp [compF] at h
  | succ n => simp only [compF] at h; exact cFresh_plain h
theorem compE_plain {G : GI} {n : Nat} {sc : Scope} {N : List PySem.Str} {e : Expr} {i : E} (h : compE G n sc N e = some i) : plainE e = true := by
  cases n with
  | zero => simp [compE] at h
  | succ n =>
    simp only [compE] at h
    cases e1 : compF G n sc N e with
    | some l => exact compF_plain e1
    | none =>
      rw [e1] at h
      cases e <;> first | rfl | (simp at h)
theorem compL_plain {G : GI} {n : Nat} {sc : Scope} {N : List PySem.Str} {e : Expr} {l : L} (h : compL G n sc N e = some l) : plainE e = true := by
  cases n with
  | zero => simp [compL] at h
  | succ n =>
    simp only [compL] at h
    cases e1 : compF G n sc N e with
    | some l => exact compF_plain e1
    | none =>
      rw [e1] at h
      cases e2 : compE G n sc N e with
      | some i => exact compE_plain e2
      | none => rw [e2] at h; cases h
theorem star_cons {env : PySem.Env} {e : Expr} {es : List Expr} (h : plainE e = true) : starEach (e :: es) env = (false, eval e env) :: starEach es env := by
  cases e <;> first | rfl | (simp [plainE] at h)
theorem noMark {e : Expr} {op : CmpOp} (h : plainE e = true) : behindInMarks op e = false := by
  cases e <;> first | rfl | (simp [plainE] at h)
theorem noFold {e : Expr} {env : PySem.Env} (h : plainE e = true) : ∀ x, foldedSetIterable e env x = pure x := by
  intro x
  cases e <;> first | rfl | (simp [plainE] at h)
theorem plainIx {e : Expr} (h : plainE e = true) : PlainIx e := by
  intro o i
  cases e <;> first | rfl | (simp [plainE] at h)
theorem back_any {env : PySem.Env} {pos : Pos} : ∀ {es : List Expr}, (∀ e ∈ es, plainE e = true) → (backTo pos (starEach es env)).any (·.1) = false
  | [], _ => rfl
  | e :: r, h => by
    rw [star_cons (h e List.mem_cons_self)]
    show (_ || (backTo pos (starEach r env)).any (·.1)) = false
    rw [back_any fun x hx => h x (List.mem_cons_of_mem _ hx)]
    rfl
theorem back_all {env : PySem.Env} {pos : Pos} : ∀ {es : List Expr}, (∀ e ∈ es, plainE e = true) → (backTo pos (starEach es env)).all (fun x => !x.1) = true
  | [], _ => rfl
  | e :: r, h => by
    rw [star_cons (h e List.mem_cons_self)]
    show (_ && (backTo pos (starEach r env)).all (fun x => !x.1)) = true
    rw [back_all fun x hx => h x (List.mem_cons_of_mem _ hx)]
    rfl
theorem slot_ok {N : List PySem.Str} {x : PySem.Str} {i : Nat} (h : slot N x = some i) : N[i]? = some x := by
  unfold slot at h
  rw [List.findIdx?_eq_some_iff_getElem] at h
  obtain ⟨hi, h1, _⟩ := h
  rw [List.getElem?_eq_getElem hi]
  exact congrArg some (eq_of_beq h1)
theorem dbg_ok {x : PySem.Str} (h : noDbg x = true) : (x == ("__debug__" : PySem.Str)) = false ∧ (x == ("__classdict__" : PySem.Str)) = false ∧ x ≠ "__name__" := by
  unfold noDbg at h
  simp only [Bool.and_eq_true, Bool.not_eq_true'] at h
  exact ⟨h.1.1, h.1.2, fun e => by rw [e] at h; simp at h⟩

/-! ### where the code stands -/
structure XOk (X : Cx) (lv : Nat) (C : Ctx) (G : GI) (sc : Scope) (N : List PySem.Str) : Prop where
  scope : X.env.scope = sc
  names : X.N = N
  nd : N.Nodup
  calm : X.calm = true
  own : PassesOwn (model X.prog X.w) X.A X.env X.xe
  room : Room lv X.A
  fns : ∀ f n, G.fns.lookup f = some n → ∃ fa fd ps, X.mg f = some (.ref fa) ∧ PySem.W.keepIn X.K (.ref fa) = true ∧ FnOk X.prog X.w X.K X.mg X.base CX0 lv fa fd ps (spF X.K n (C.call f)) ∧ Binds X.K fd ps []
  glo : ∀ x, G.glo.contains x = true → ∃ v u d, C.glo x = some d ∧ X.mg x = some u ∧ RelV v u ∧ (∀ ρ H, RV X.K ρ H v d) ∧ ∀ ds, d = .tup ds → ∀ H, tyV X.K "tuple" v H
  blt : ∀ b ∈ bltNames, X.mg b = none
structure Ex (X : Cx) (C : Ctx) (e : Expr) (i : E) : Prop where
  pe : PE X e (tE X.K C i)
  pt : PT X e (tT X.K C i)
section
variable {X : Cx} {lv : Nat} {C : Ctx} {G : GI} {sc : Scope} {N : List PySem.Str} {a b c e : Expr} {es : List Expr} {ia ib ic : E} {ies : Es} {la lb : L} {pos p : Pos} {x : PySem.Str} {tg : Expr} {t : Tg} {ts : Tgs}
theorem XOk.gl (ok : XOk X lv C G sc N) (h : isGl sc x = true) : Gl X x := by
  unfold isGl at h
  show X.env.scope.names.lookup x = _
  rw [ok.scope]
  split at h
  · assumption
  · cases h
theorem XOk.blt0 (ok : XOk X lv C G sc N) {b : PySem.Str} (h : b ∈ bltNames := by decide) : X.mg b = none := ok.blt b h
theorem XOk.u64 (ok : XOk X lv C G sc N) : X.A.units + 65 < cLine := by have := ok.room.un; omega
/-- of a plain head: its test is its value's truth -/
theorem Ex.of (h : PE X e (tE X.K C ia)) (he : ∀ whole, isTrue e X.env whole = (do let v ← whole; standAt e.pos; holding [v] (truthy v))) : Ex X C e ia := ⟨h, te_truth h he⟩
theorem s_name (ok : XOk X lv C G sc N) {i : E} (h : (if noDbg x then (if isVis sc x then (slot N x).map E.var else if isGl sc x && G.glo.contains x then some (.glo x) else none) else none) = some i) : Ex X C (.Name x pos) i := by
  split at h
  · rename_i hd
    obtain ⟨d1, d2, d3⟩ := dbg_ok hd
    split at h
    · rename_i hv
      cases e1 : slot N x with
      | none => rw [e1] at h; cases h
      | some j =>
        rw [e1] at h; cases h
        refine .of (ex_var (pe_var (by rw [ok.names]; exact slot_ok e1) ?_ d1 d2)) fun _ => rfl
        unfold isVis at hv
        show X.env.scope.names.lookup x = _ ∨ X.env.scope.names.lookup x = _ ∨ X.env.scope.names.lookup x = _
        rw [ok.scope]
        split at hv
        · exact .inl (by assumption)
        · exact .inr (.inl (by assumption))
        · exact .inr (.inr (by assumption))
        · cases hv
    · split at h
      · rename_i hg
        cases h
        simp only [Bool.and_eq_true] at hg
        obtain ⟨v, u, d, h1, h2, h3, h4, _⟩ := ok.glo x hg.2
        exact .of (ex_glo (pe_glob (ok.gl hg.1) h2 h3 d1) h1 h4) fun _ => rfl
      · cases h
  · cases h
theorem s_const {k : Const} {j : Nat} {i : E} (h : (constD k).map E.cst = some i) : Ex X C (.Constant k j pos) i := by
  cases k with
  | none => cases h; exact .of (ex_cst pe_non fun _ _ => .non) fun _ => rfl
  | bool b => cases h; exact .of (ex_cst pe_bl fun _ _ => .bl b) fun _ => rfl
  | int b => cases h; exact .of (ex_cst pe_int fun _ _ => .int b) fun _ => rfl
  | str z =>
    simp only [constD] at h
    split at h
    · rename_i hz
      cases h
      simp only [Bool.and_eq_true, decide_eq_true_eq] at hz
      exact .of (ex_cst pe_str fun _ _ => .str z hz.1 (Nat.le_trans hz.2 (by rw [sizeLine_eq]; decide))) fun _ => rfl
    · cases h
  | _ => cases h
/-- a compiled argument list -/
theorem as_of {f : Expr → Option E} (h : ∀ e i, f e = some i → PE X e (tE X.K C i)) (hp : ∀ e i, f e = some i → plainE e = true) : ∀ {es : List Expr} {is : Es}, toEs f es = some is → PA X es (tEs X.K C is) ∧ lenEs is = es.length ∧ ∀ e ∈ es, plainE e = true
  | [], is, q => by cases q; exact ⟨as_nil, rfl, fun _ h => by cases h⟩
  | e :: r, is, q => by
    simp only [toEs] at q
    split at q
    · rename_i i is' e1 e2
      cases q
      obtain ⟨h1, h2, h3⟩ := as_of h hp e2
      refine ⟨as_cons (h e i e1) h1 (star_cons (hp e i e1)), by simp only [lenEs, List.length_cons, h2], fun y hy => ?_⟩
      rcases List.mem_cons.mp hy with rfl | hy
      · exact hp _ _ e1
      · exact h3 y hy
    · cases q
theorem op_mul_ : OpR X (binaryOp .Mult) (rD2 X.K (bin .mul)) := by
  refine OpR.imp (opI (C := fun i j => mulOk i j = true) (g := fun i j => i * j) fun _ _ _ _ _ _ _ hc q => mul_int q ((mul_ok hc).elim (fun z => z.ok) (fun z => z.ok))) fun x y H Q h => ?_
  obtain ⟨ρ, s, d, e, r, hx, hy, h⟩ := h
  cases d with
  | int i =>
    cases e with
    | int j =>
      cases hx; cases hy
      simp only [bin] at h
      split at h
      · rename_i hl
        exact ⟨i, j, rfl, rfl, hl, h.same r (.int _)⟩
      · exact h.elim
    | _ => exact h.elim
  | _ => exact h.elim
theorem s_bop {op : Operator} {o : BOp} (h : bop op = some o) (ha : PE X a (tE X.K C ia)) (hb : PE X b (tE X.K C ib)) : Ex X C (.BinOp a op b pos) (.bin o ia ib) := by
  refine .of ?_ fun _ => rfl
  cases op <;> cases h
  · exact ex_bin op_add_ ha hb
  · exact ex_bin op_sub_ ha hb
  · exact ex_bin op_mul_ ha hb
  · exact ex_bin op_mod_ ha hb
  · exact ex_bin op_shr_ ha hb
  · exact ex_bin op_fdiv_ ha hb
theorem cop_ok (ok : XOk X lv C G sc N) {op : CmpOp} {o : COp} (h : cop op = some o) : OpR X (compareOp op) (rCmp X.K o) := by
  have u := ok.u64
  cases op <;> cases h
  · exact cmp_eq_ (by omega)
  · exact cmp_ne_ (by omega)
  · exact cmp_lt_
  · exact cmp_le_ (by omega)
  · exact cmp_gt_
  · exact cmp_ge_
  · exact cmp_mem_ u
  · exact cmp_nmem_ u
theorem isNoneE_ok (h : isNoneE e = true) : ∃ j q, e = .Constant .none j q := by
  cases e <;> first | (simp [isNoneE] at h; done) | skip
  rename_i k j q
  cases k <;> first | exact ⟨j, q, rfl⟩ | (simp [isNoneE] at h)
theorem lastMk {o o' : CmpOp} (h : plainE c = true) : lastMarks [o, o'] [b, c] = false := by
  show behindInMarks o' c = false
  exact noMark h
theorem s_cmp (ok : XOk X lv C G sc N) {f : Expr → Option E} (h : ∀ e i, f e = some i → PE X e (tE X.K C i)) (hp : ∀ e i, f e = some i → plainE e = true) {ops : List CmpOp} {bs : List Expr} {i : E} (q : cCmp f a ops bs = some i) : Ex X C (.Compare a ops bs pos) i := by
  unfold cCmp at q
  split at q
  · rename_i b
    split at q
    · rename_i hn
      obtain ⟨j, p, rfl⟩ := isNoneE_ok hn
      cases e1 : f a with
      | none => rw [e1] at q; cases q
      | some i' => rw [e1] at q; cases q; exact ⟨ex_isn (h _ _ e1), te_isn (h _ _ e1)⟩
    · cases q
  · rename_i b
    split at q
    · rename_i hn
      obtain ⟨j, p, rfl⟩ := isNoneE_ok hn
      cases e1 : f a with
      | none => rw [e1] at q; cases q
      | some i' => rw [e1] at q; cases q; exact ⟨ex_isnn (h _ _ e1), te_isnn (h _ _ e1)⟩
    · cases q
  · split at q
    · rename_i o i1 i2 e0 e1 e2
      cases q
      exact ⟨ex_cmp (cop_ok ok e0) (h _ _ e1) (h _ _ e2) (noMark (hp _ _ e2)), te_cmp (cop_ok ok e0) (h _ _ e1) (h _ _ e2) (noMark (hp _ _ e2))⟩
    · cases q
  · split at q
    · rename_i o o' i1 i2 i3 e0 e0' e1 e2 e3
      cases q
      exact ⟨ex_chn (cop_ok ok e0) (cop_ok ok e0') (h _ _ e1) (h _ _ e2) (h _ _ e3) (lastMk (hp _ _ e3)), te_chn (cop_ok ok e0) (cop_ok ok e0') (h _ _ e1) (h _ _ e2) (h _ _ e3) (lastMk (hp _ _ e3))⟩
    · cases q
  · cases q
theorem s_bool {f : Expr → Option E} (h : ∀ e i, f e = some i → Ex X C e i) {op : BoolOp} : ∀ {vs : List Expr} {i : E}, cBool f op vs = some i → PE X (.BoolOp op vs pos) (tE X.K C i) ∧ PW X (.BoolOp op vs pos) (tT X.K C i)
  | [], i, q => by cases q
  | [x], i, q => by
    simp only [cBool] at q
    have hx := h x i q
    cases op
    · exact ⟨pe_one hx.pe, pw_and1 hx.pt⟩
    · exact ⟨pe_one hx.pe, pw_or1 hx.pt⟩
  | x :: y :: r, i, q => by
    simp only [cBool] at q
    split at q
    · rename_i i1 i2 e1 e2
      have hx := h x i1 e1
      obtain ⟨g1, g2⟩ := s_bool h (vs := y :: r) e2
      cases op
      · cases q; exact ⟨ex_and hx.pe g1, tw_and hx.pt g2⟩
      · cases q; exact ⟨ex_or hx.pe g1, tw_or hx.pt g2⟩
    · cases q
theorem te_ife (hc : PT X c (tT X.K C ic)) (ha : PT X a (tT X.K C ia)) (hb : PT X b (tT X.K C ib)) : PT X (.IfExp c a b pos) (tT X.K C (.ife ic ia ib)) := ⟨fun pins s σ H Q I q => by
  obtain ⟨ρ, s0, η, r, en, q⟩ := q
  have step : tT X.K C ic σ H fun k H1 => if k = true then tT X.K C ia σ H1 Q else tT X.K C ib σ H1 Q := by
    refine tT.stepB r en q fun k d s1 ρ1 H1 _ r1 en1 _ q1 => ?_
    cases k with
    | true => exact iteT ⟨ρ1, s1, η, r1, en1, q1⟩
    | false => exact iteF ⟨ρ1, s1, η, r1, en1, q1⟩
  refine PyProof.Rows.isTrue_IfExp (thn (hc.run pins s σ H _ I step) fun k s1 ⟨H1, I1, q1⟩ => ?_)
  cases k with
  | true => exact ha.run pins s1 σ H1 Q I1 q1
  | false => exact hb.run pins s1 σ H1 Q I1 q1⟩
/-! ### zip -/
theorem zip_get : ∀ {xs ys : List D} {i : Nat} {d : D}, (zipD xs ys)[i]? = some d → ∃ x y, xs[i]? = some x ∧ ys[i]? = some y ∧ d = .tup [x, y]
  | [], _, _, _, h => by simp [zipD] at h
  | _ :: _, [], _, _, h => by simp [zipD] at h
  | x :: xs, y :: ys, 0, d, h => by simp [zipD] at h; exact ⟨x, y, rfl, rfl, h.symm⟩
  | x :: xs, y :: ys, i + 1, d, h => by
    obtain ⟨u, v, a, b, c⟩ := zip_get (xs := xs) (ys := ys) (i := i) (d := d) (by simpa [zipD] using h)
    exact ⟨u, v, by simpa using a, by simpa using b, c⟩
theorem zip_len : ∀ {xs ys : List D}, (zipD xs ys).length = min xs.length ys.length
  | [], _ => by simp [zipD]
  | _ :: _, [] => by simp [zipD]
  | x :: xs, y :: ys => by simp only [zipD, List.length_cons, zip_len]; omega
theorem watched_two {m n : Nat} {a b : List D} {s : S} (h : watched [(m, a), (n, b)] s = true) : S.lst s m = some a ∧ S.lst s n = some b := by
  simp only [watched, List.all_cons, List.all_nil, Bool.and_true, Bool.and_eq_true] at h
  obtain ⟨h1, h2⟩ := h
  refine ⟨?_, ?_⟩
  · split at h1
    · rename_i xs e; rw [D.beqs_ok h1] at e; exact e
    · cases h1
  · split at h2
    · rename_i xs e; rw [D.beqs_ok h2] at e; exact e
    · cases h2
theorem watched_self {n : Nat} {xs : List D} {s : S} (h : S.lst s n = some xs) : watched [(n, xs)] s = true := by
  simp only [watched, List.all_cons, List.all_nil, Bool.and_true, h, D.beqs_self]
theorem watched_inv {n : Nat} {xs : List D} {s : S} (h : watched [(n, xs)] s = true) : S.lst s n = some xs := by
  simp only [watched, List.all_cons, List.all_nil, Bool.and_true] at h
  split at h
  · rename_i xs e; rw [D.beqs_ok h] at e; exact e
  · cases h
theorem it_zip {elts : List Expr} {kk : Nat} {tpos : Pos} (hg : Gl X "zip") (hm : X.mg "zip" = none) (ha : PE X a (tE X.K C ia)) (hb : PE X b (tE X.K C ib)) (h1 : starEach [a, b] X.env = (false, eval a X.env) :: starEach [b] X.env) (h2 : starEach [b] X.env = (false, eval b X.env) :: starEach [] X.env) :
    PI X (.Tuple elts kk tpos) (.Call (.Name "zip" p) [a, b] [] pos) (tI X.K C (.zip ia ib)) :=
  PI.imp (RZ.pi_zipA hg hm (pa_cons ha (pa_cons hb pa_nil h2) h1) h1 (by rw [h2]; rfl)) fun σ H R q => by
    obtain ⟨ρ, s, η, r, en, q⟩ := q
    simp only [evIt_zip] at q
    refine ⟨ρ, s, η, r, en, ?_⟩
    cases e1 : evE C ia η s with
    | ok d s1 =>
      rw [e1, bind_ok] at q
      intro v ρ1 H1 x rv
      refine ⟨ρ1, s1, η, x.rep, en.mono x r, ?_⟩
      cases e3 : evE C ib η s1 with
      | ok e s2 =>
        rw [e3, bind_ok] at q
        intro u ρ2 H2 y ru
        have rv := y.rv x.rep rv
        cases d with
        | tup xs =>
          cases e with
          | tup ys =>
            simp only [zipV] at q
            split at q
            · rename_i hl
              obtain ⟨pa, vs, rfl, h3, h4⟩ := rv.tup_inv
              obtain ⟨pb, us, rfl, h5, h6⟩ := ru.tup_inv
              refine ⟨pa, pb, vs, us, rfl, .inr ⟨h3, h5, q _ ρ2 H2 (x.trans y) rfl (fun ρ4 s4 H4 x4 w4 i => ⟨fun d e => ?_, fun e => ?_⟩) ?_⟩⟩
              · obtain ⟨dx, dy, e5, e6, rfl⟩ := zip_get e
                have t3 := x4.tups y.rep h3
                have t5 := x4.tups y.rep h5
                obtain ⟨vx, e7, r7⟩ := (x4.rvs y.rep h4).get e5
                obtain ⟨vy, e8, r8⟩ := (x4.rvs y.rep h6).get e6
                refine ⟨⟨vs, us, vx, vy, t3, t5, e7, e8⟩, fun z H5 g => ?_⟩
                obtain ⟨T, gx, gy, rfl, hT, rfl, g1, g2⟩ := g
                have g1 := g1 _ t3
                have g2 := g2 _ t5
                rw [e7] at g1; cases g1
                rw [e8] at g2; cases g2
                have xl := Ext.laid x4.rep (u := .tup [vx, vy]) hT
                exact ⟨xl, .tup (.inl (.inl upd_same)) (.cons (xl.rv x4.rep r7) (.cons (xl.rv x4.rep r8) .nil))⟩
              · refine ⟨vs, us, x4.tups y.rep h3, x4.tups y.rep h5, ?_⟩
                rw [h4.length, h6.length, e, zip_len]; omega
              · rw [zip_len, sizeLine_eq]
                have : big = 16777216 := rfl
                omega
            · exact q.elim
          | _ => exact q.elim
        | loc m =>
          cases e with
          | loc n =>
            simp only [zipV] at q
            split at q
            · rename_i xs ys e1 e2
              split at q
              · rename_i hl
                obtain ⟨pa, rfl, l1⟩ := rv.loc_inv
                obtain ⟨pb, rfl, l2⟩ := ru.loc_inv
                obtain ⟨vs, h3, h4⟩ := y.rep.lst e1 l1
                obtain ⟨us, h5, h6⟩ := y.rep.lst e2 l2
                refine ⟨pa, pb, vs, us, rfl, .inl ⟨h3, h5, q _ ρ2 H2 (x.trans y) ?_ (fun ρ4 s4 H4 x4 w4 i => ?_) ?_⟩⟩
                · simp only [watched, List.all_cons, List.all_nil, Bool.and_true, e1, e2, D.beqs_self]
                · obtain ⟨w1, w2⟩ := watched_two w4
                  obtain ⟨vs, t3, h4⟩ := x4.rep.lst w1 (x4.pre _ _ l1)
                  obtain ⟨us, t5, h6⟩ := x4.rep.lst w2 (x4.pre _ _ l2)
                  refine ⟨fun d e => ?_, fun e => ?_⟩
                  · obtain ⟨dx, dy, e5, e6, rfl⟩ := zip_get e
                    obtain ⟨vx, e7, r7⟩ := h4.get e5
                    obtain ⟨vy, e8, r8⟩ := h6.get e6
                    refine ⟨⟨vs, us, vx, vy, t3, t5, e7, e8⟩, fun z H5 g => ?_⟩
                    obtain ⟨T, gx, gy, rfl, hT, rfl, g1, g2⟩ := g
                    have g1 := g1 _ t3
                    have g2 := g2 _ t5
                    rw [e7] at g1; cases g1
                    rw [e8] at g2; cases g2
                    have xl := Ext.laid x4.rep (u := .tup [vx, vy]) hT
                    exact ⟨xl, .tup (.inl (.inl upd_same)) (.cons (xl.rv x4.rep r7) (.cons (xl.rv x4.rep r8) .nil))⟩
                  · refine ⟨vs, us, t3, t5, ?_⟩
                    rw [h4.length, h6.length, e, zip_len]; omega
                · rw [zip_len, sizeLine_eq]
                  have : big = 16777216 := rfl
                  omega
              · exact q.elim
            · exact q.elim
          | _ => exact q.elim
        | _ => exact q.elim
      | exn _ _ => rw [e3] at q; exact q.elim
      | bad => rw [e3] at q; exact q.elim
    | exn _ _ => rw [e1] at q; exact q.elim
    | bad => rw [e1] at q; exact q.elim
/-! ### enumerate -/
theorem enum_get : ∀ {xs : List D} {k i : Nat} {d : D}, (enumFrom k xs)[i]? = some d → ∃ x, xs[i]? = some x ∧ d = .tup [.int ((k + i : Nat) : Int), x]
  | [], _, _, _, h => by simp [enumFrom] at h
  | x :: xs, k, 0, d, h => by simp [enumFrom] at h; exact ⟨x, rfl, h.symm⟩
  | x :: xs, k, i + 1, d, h => by
    obtain ⟨u, a, c⟩ := enum_get (xs := xs) (k := k + 1) (i := i) (d := d) (by simpa [enumFrom] using h)
    exact ⟨u, by simpa using a, by rw [c]; congr 4; omega⟩
theorem enum_len : ∀ {xs : List D} {k : Nat}, (enumFrom k xs).length = xs.length
  | [], _ => rfl
  | x :: xs, k => by simp only [enumFrom, List.length_cons, enum_len]
theorem it_enu {elts : List Expr} {kk : Nat} {tpos : Pos} (hg : Gl X "enumerate") (hm : X.mg "enumerate" = none) (ha : PE X a (tE X.K C ia)) (h1 : starEach [a] X.env = (false, eval a X.env) :: starEach [] X.env) :
    PI X (.Tuple elts kk tpos) (.Call (.Name "enumerate" p) [a] [] pos) (tI X.K C (.enu ia)) :=
  PI.imp (pi_enum hg hm (pa_cons ha pa_nil h1) h1) fun σ H R q => by
    obtain ⟨ρ, s, η, r, en, q⟩ := q
    simp only [evIt_enu] at q
    refine ⟨ρ, s, η, r, en, ?_⟩
    cases e1 : evE C ia η s with
    | ok d s1 =>
      rw [e1, bind_ok] at q
      intro v ρ1 H1 x rv
      cases d with
      | loc m =>
        cases e2 : S.lst s1 m with
        | none =>
          have : enuV s1 (.loc m) = none := by show (match S.lst s1 m with | some xs => (if xs.length ≤ big then some (enumFrom 0 xs, [(m, xs)]) else none) | none => none) = none; rw [e2]
          rw [this] at q; exact q.elim
        | some xs =>
          have e3 : enuV s1 (.loc m) = if xs.length ≤ big then some (enumFrom 0 xs, [(m, xs)]) else none := by
            show (match S.lst s1 m with | some xs => (if xs.length ≤ big then some (enumFrom 0 xs, [(m, xs)]) else none) | none => none) = _
            rw [e2]
          rw [e3] at q
          split at q
          · rename_i hl
            obtain ⟨pa, rfl, l1⟩ := rv.loc_inv
            obtain ⟨vs, h3, h4⟩ := x.rep.lst e2 l1
            refine ⟨pa, vs, rfl, h3, q _ ρ1 H1 x (watched_self e2) (fun ρ4 s4 H4 x4 w4 i => ?_) (by rw [enum_len, sizeLine_eq]; have : big = 16777216 := rfl; omega)⟩
            have w1 := watched_inv w4
            obtain ⟨vs, t3, h4⟩ := x4.rep.lst w1 (x4.pre _ _ l1)
            refine ⟨fun d e => ?_, fun e => ⟨vs, t3, by rw [h4.length, e, enum_len]; exact Nat.le_refl _⟩⟩
            obtain ⟨dx, e5, rfl⟩ := enum_get e
            obtain ⟨vx, e7, r7⟩ := h4.get e5
            refine ⟨⟨vs, vx, t3, e7⟩, fun z H5 g => ?_⟩
            obtain ⟨T, gx, rfl, hT, rfl, g1⟩ := g
            have g1 := g1 _ t3
            rw [e7] at g1; cases g1
            have xl := Ext.laid x4.rep (u := .tup [.int (i : Nat), vx]) hT
            refine ⟨xl, .tup (.inl (.inl upd_same)) (.cons ?_ (.cons (xl.rv x4.rep r7) .nil))⟩
            rw [Nat.zero_add]
            exact .int _
          · exact q.elim
      | _ => exact q.elim
    | exn _ _ => rw [e1] at q; exact q.elim
    | bad => rw [e1] at q; exact q.elim
/-! ### isinstance with two classes -/
theorem ex_isin2 {t t' : Ty} {c : Expr} {kk : Nat} {pt : Pos} (hg : Gl X "isinstance") (hm : X.mg "isinstance" = none) (ha : PE X a (tE X.K C ia)) (hT : PE X b (tC (.ty (tyN t)))) (hU : PE X c (tC (.ty (tyN t'))))
    (h1 : starEach [a, .Tuple [b, c] kk pt] X.env = (false, eval a X.env) :: starEach [.Tuple [b, c] kk pt] X.env) (h2 : starEach [b, c] X.env = (false, eval b X.env) :: starEach [c] X.env) (h4 : starEach [c] X.env = (false, eval c X.env) :: starEach [] X.env) :
    PE X (.Call (.Name "isinstance" p) [a, .Tuple [b, c] kk pt] [] pos) (tE X.K C (.isin ia [t, t'])) :=
  PE.imp (pe_callB call_isiT hg hm boot_isinstance (pa_cons ha (pa_cons (pe_tup (pa_cons hT (pa_cons hU pa_nil h4) h2)) pa_nil rfl) h1) (by decide) (by decide) h1 rfl) fun σ H Q q => by
    obtain ⟨ρ, s, η, r, en, q⟩ := q
    refine tE.step r en q fun x d s1 ρ1 H1 _ r1 en1 rv1 q1 => ?_
    refine ⟨by show 2 ≤ sizeLine; rw [sizeLine_eq]; decide, fun pp hp => ?_⟩
    have xl := Ext.laid r1 (u := .tup [V.ty (tyN t), V.ty (tyN t')]) hp
    obtain ⟨n, e1, e2, e3⟩ := tyName_of r1 rv1
    have e4 : ([t, t'].any fun t => isTy s1 d t) = ((n == tyN t || (n == "bool" && tyN t == "int")) || (n == tyN t' || (n == "bool" && tyN t' == "int"))) := by
      simp only [List.any_cons, List.any_nil, Bool.or_false]
      rw [e3 t, e3 t']
    refine ⟨x, pp, [.ty (tyN t), .ty (tyN t')], .type n, [.type (tyN t), .type (tyN t')], [t, t'].any fun t => isTy s1 d t, rfl, upd_same, .cons (.ty _) (.cons (.ty _) .nil), tyx_of xl.rep (xl.rv r1 rv1) e1, ?_, ?_⟩
    · rw [e4]
      unfold PySem.W.kitAny
      rw [kit_one X.K n e2 t]
      cases e5 : (n == tyN t || (n == "bool" && tyN t == "int"))
      · unfold PySem.W.kitAny
        rw [kit_one X.K n e2 t']
        cases e6 : (n == tyN t' || (n == "bool" && tyN t' == "int")) <;> rfl
      · rfl
    · exact (AnsD.ext q1 xl).same xl.rep (.bl _)
/-! ### the place of an item -/
theorem find_first {α : Type} {p : α → Bool} {xs : List α} {j : Nat} (h : xs.findIdx? p = some j) : ∃ z, xs[j]? = some z ∧ p z = true ∧ ∀ m z', m < j → xs[m]? = some z' → p z' = false := by
  rw [List.findIdx?_eq_some_iff_getElem] at h
  obtain ⟨h1, h2, h3⟩ := h
  refine ⟨xs[j], List.getElem?_eq_getElem h1, h2, fun m z' hm e => ?_⟩
  have := h3 m hm
  obtain ⟨hm', rfl⟩ := List.getElem?_eq_some_iff.mp e
  simpa using this
theorem toPys_get : ∀ {ds : List D} {j : Nat}, (toPys ds)[j]? = (ds[j]?).map toPy
  | [], _ => by simp [toPys]
  | d :: r, 0 => by simp [toPys]
  | d :: r, j + 1 => by simp only [toPys, List.getElem?_cons_succ]; exact toPys_get
theorem ok_at : ∀ {n : Nat} {ds : List D} {j : Nat} {d : D}, okNs n ds = true → ds[j]? = some d → okN n d = true
  | n, [], j, d, _, e => by simp at e
  | n, x :: r, 0, d, h, e => by simp only [okNs, Bool.and_eq_true] at h; simp at e; subst e; exact h.1
  | n, x :: r, j + 1, d, h, e => by simp only [okNs, Bool.and_eq_true] at h; exact ok_at h.2 (by simpa using e)
theorem ex_idx {o : Expr} {io : E} {apos : Pos} (ok' : XOk X lv C G sc N) (ho : PE X o (tE X.K C io)) (ha : PE X a (tE X.K C ia)) (hbase : attributeBase o "index" X.env (eval o X.env) = eval o X.env) (hp : plainE a = true)
    (hline : (apos.endLine == pos.line) = true) : PE X (.Call (.Attribute o "index" apos) [a] [] pos) (tE X.K C (.idx io ia)) := by
  have h1 : starEach [a] X.env = (false, eval a X.env) :: starEach [] X.env := star_cons hp
  refine PE.imp (pe_bm PySem.F.plainAttrs_list PySem.F.slot_list_index PySem.F.type_list_index (mt_indexD ok'.u64) ho (pa_cons ha pa_nil h1) hbase (by rw [back_all (es := [a]) fun x hx => by rw [List.mem_singleton.mp hx]; exact hp]; rfl) hline h1 rfl) fun σ H Q q => ?_
  obtain ⟨ρ, s, η, r, en, q⟩ := q
  simp only [evE_idx] at q
  refine tE.step r en q fun x d s1 ρ1 H1 x1 r1 en1 rv1 q1 => ?_
  have hd : ∃ n, d = .loc n := by
    cases e1 : evE C ia η s1 with
    | ok e s2 =>
      rw [e1, bind_ok] at q1
      cases d with
      | loc n => exact ⟨n, rfl⟩
      | _ => exact q1.elim
    | exn _ _ => rw [e1] at q1; exact q1.elim
    | bad => rw [e1] at q1; exact q1.elim
  obtain ⟨n, rfl⟩ := hd
  refine ⟨tyV_loc r1 rv1, tE.step r1 en1 q1 fun y e s2 ρ2 H2 x2 r2 en2 rv2 q2 => ?_⟩
  obtain ⟨p', rfl, hp'⟩ := (x2.rv r1 rv1).loc_inv
  cases e3 : S.lst s2 n with
  | none =>
    have : idxV s2 (.loc n) e = none := by show (match S.lst s2 n with | some xs => _ | none => none) = none; rw [e3]
    rw [this] at q2; exact q2.elim
  | some xs =>
    have e4 : idxV s2 (.loc n) e = if okNs maxDepth xs && ok e then (xs.findIdx? fun z => eqv z e).map (fun j => .int (j : Nat)) else none := by
      show (match S.lst s2 n with | some xs => (if okNs maxDepth xs && ok e then (xs.findIdx? fun z => eqv z e).map (fun j => D.int (j : Nat)) else none) | none => none) = _
      rw [e3]
    rw [e4] at q2
    split at q2
    · rename_i hc
      simp only [Bool.and_eq_true] at hc
      cases e5 : xs.findIdx? fun z => eqv z e with
      | none => rw [e5] at q2; exact q2.elim
      | some j =>
        rw [e5] at q2
        obtain ⟨z, f1, f2, f3⟩ := find_first e5
        obtain ⟨vs, g1, g2⟩ := r2.lst e3 hp'
        have hs1 : SeqAt.shaped (.list (toPys xs)) = true := by
          unfold SeqAt.shaped
          have c1 : (PyData.list (toPys xs)).canLay0 = true := by simp only [PyData.canLay0]; exact lays_of hc.1 g2
          rw [c1, Bool.true_and]
          refine decide_eq_true ?_
          simp only [PyData.depth]
          have c2 := depths_of hc.1
          have c3 : maxDepth = 40 := rfl
          omega
        exact ⟨p', y, toPy e, toPys xs, j, toPy z, rfl, rfl, .lst g1 (dps_of hc.1 g2), dp_of hc.2 rv2, hs1, shaped_of (by decide) hc.2 rv2, by rw [toPys_get, f1]; rfl, by rw [eqv_of (ok_at hc.1 f1) hc.2]; exact f2,
          fun m z' hm hz => by
            rw [toPys_get] at hz
            cases e6 : xs[m]? with
            | none => rw [e6] at hz; cases hz
            | some w =>
              rw [e6] at hz; cases hz
              rw [eqv_of (ok_at hc.1 e6) hc.2]
              exact f3 m w hm e6, q2.same r2 (.int _)⟩
    · exact q2.elim
theorem strs_rvs {K : PySem.W.Frag} {ρ : List Addr} {H : Hp} : ∀ {vs : List V} {ds : List D} {zs : List (List Nat)}, RVs K ρ H vs ds → strsD ds = some zs → ∃ ys : List PySem.Str, vs = ys.map V.str ∧ zs = ys.map fun y => y.cps.toList
  | _, _, _, .nil, e => by cases e; exact ⟨[], rfl, rfl⟩
  | _, _, zs, .cons (d := d) h t, e => by
    cases d with
    | str x =>
      simp only [strsD] at e
      split at e
      · rename_i l e1
        cases e
        obtain ⟨ys, h1, h2⟩ := strs_rvs t e1
        cases h with
        | str y h3 h4 => exact ⟨y :: ys, by rw [h1]; rfl, by rw [h2]; rfl⟩
      · cases e
    | _ => simp [strsD] at e
theorem ex_idxG {x : PySem.Str} {apos p2 : Pos} (ok' : XOk X lv C G sc N) (hx : isGl sc x = true) (hc : G.glo.contains x = true) (hdb : noDbg x = true) (ha : PE X a (tE X.K C ia)) (hp : plainE a = true) (hline : (apos.endLine == pos.line) = true) :
    PE X (.Call (.Attribute (.Name x p2) "index" apos) [a] [] pos) (tE X.K C (.idxG x ia)) := by
  obtain ⟨d1, d2, d3⟩ := dbg_ok hdb
  obtain ⟨v, u, d, g1, g2, g3, g4, g5⟩ := ok'.glo x hc
  have h1 : starEach [a] X.env = (false, eval a X.env) :: starEach [] X.env := star_cons hp
  refine PE.imp (pe_bm PySem.F.plainAttrs_tuple PySem.F.slot_tuple_index PySem.F.type_tuple_index mt_tup_index (pe_glob (ok'.gl hx) g2 g3 d1) (pa_cons ha pa_nil h1) rfl (by rw [back_all (es := [a]) fun x hx => by rw [List.mem_singleton.mp hx]; exact hp]; rfl) hline h1 rfl) fun σ H Q q => ?_
  obtain ⟨ρ, s, η, r, en, q⟩ := q
  simp only [evE_idxG] at q
  have hd : ∃ ds, d = .tup ds := by
    cases e1 : evE C ia η s with
    | ok e s2 =>
      rw [e1, bind_ok, g1, Option.bind_some] at q
      cases d with
      | tup n => exact ⟨n, rfl⟩
      | _ => exact q.elim
    | exn _ _ => rw [e1] at q; exact q.elim
    | bad => rw [e1] at q; exact q.elim
  obtain ⟨ds, rfl⟩ := hd
  refine ⟨g5 ds rfl H, tE.step r en q fun y e s2 ρ2 H2 x2 r2 en2 rv2 q2 => ?_⟩
  rw [g1, Option.bind_some] at q2
  cases e with
  | str z =>
    have e4 : idxT (.tup ds) (.str z) = match strsD ds with | some zs => (zs.findIdx? fun e => e == z).map (fun j => D.int (j : Nat)) | none => none := rfl
    rw [e4] at q2
    cases e5 : strsD ds with
    | none => rw [e5] at q2; exact q2.elim
    | some zs =>
      rw [e5] at q2
      dsimp only at q2
      cases e6 : zs.findIdx? fun e => e == z with
      | none => rw [e6] at q2; exact q2.elim
      | some j =>
        rw [e6] at q2
        obtain ⟨w, f1, f2, f3⟩ := find_first e6
        obtain ⟨pp, vs, rfl, hq, rq⟩ := (g4 ρ2 H2).tup_inv
        obtain ⟨ys, rfl, rfl⟩ := strs_rvs rq e5
        obtain ⟨y', rfl, ez, _⟩ := rv2.str_inv
        have inj : ∀ {a b : PySem.Str}, a.cps.toList = b.cps.toList → a = b := fun {a b} h => by
          cases a; cases b; congr 1; exact Array.toList_inj.mp h
        rw [List.getElem?_map] at f1
        cases e7 : ys[j]? with
        | none => rw [e7] at f1; cases f1
        | some yj =>
          rw [e7] at f1; cases f1
          have e8 : yj = y' := inj (by have := eq_of_beq f2; rw [ez]; exact this)
          subst e8
          refine ⟨pp, ys, yj, j, rfl, rfl, hq, e7, fun m hm e9 => ?_, q2.same r2 (.int _)⟩
          have := f3 m yj.cps.toList hm (by rw [List.getElem?_map, e9]; rfl)
          rw [ez] at this
          simp at this
  | _ => exact q2.elim
end
end PX
end
section
/-! PX, soundness 10: what compiles is sound, expressions -/
namespace PX
open PySem PySem.Spec PyProof.Rows L2
/-! ### calls without arguments are not compiled -/
def baseE : Expr → Bool
  | .Call _ [] _ _ => false
  | _ => true
theorem base_ok {o : Expr} {name : PySem.Str} {env : PySem.Env} {w : Sem Value} (h : baseE o = true) (hm : ∀ p q r s, o ≠ .Call (.Attribute p q r) [] [] s) : attributeBase o name env w = w := by
  cases o <;> try rfl
  rename_i f as kw pos
  cases as with
  | nil => simp [baseE] at h
  | cons a r => cases f <;> rfl
theorem cFresh_base {n : Nat} {f g l it sc N e y} (h : cFresh n f g l it sc N e = some y) : baseE e = true := by
  cases e <;> first | rfl | skip
  rename_i fn as kw pos
  cases as with
  | nil => cases fn <;> simp [cFresh] at h
  | cons a r => rfl
theorem compF_base {G : GI} {n : Nat} {sc : Scope} {N : List PySem.Str} {e : Expr} {l : L} (h : compF G n sc N e = some l) : baseE e = true := by
  cases n with
  | zero => simp [compF] at h
  | succ n => simp only [compF] at h; exact cFresh_base h
theorem attr_base {o : Expr} {name : PySem.Str} {env : PySem.Env} {w : Sem Value} (h : ∀ x p kw pos, o ≠ .Call (.Name x p) [] kw pos) : attributeBase o name env w = w := by
  cases o <;> try rfl
  rename_i f as kw pos
  cases as with
  | nil =>
    cases f <;> first | rfl | skip
    exact absurd rfl (h _ _ _ _)
  | cons a r => cases f <;> rfl
theorem ite_none {c : Prop} [Decidable c] {α : Type} {a b : Option α} (ha : a = none) (hb : b = none) : (if c then a else b) = none := by rw [ha, hb]; exact ite_self _
theorem cCall_nil {G : GI} {f g l sc x} : cCall G f g l sc x [] = none := by
  unfold cCall
  refine ite_none rfl ?_
  cases G.fns.lookup x with
  | some k => rfl
  | none =>
    dsimp only
    iterate 11 refine ite_none rfl ?_
    rfl
theorem compE_noCall0 {G : GI} {n : Nat} {sc : Scope} {N : List PySem.Str} {e : Expr} {i : E} (h : compE G n sc N e = some i) : ∀ x p kw pos, e ≠ .Call (.Name x p) [] kw pos := by
  rintro x p kw pos rfl
  cases n with
  | zero => simp [compE] at h
  | succ n =>
    simp only [compE] at h
    cases e1 : compF G n sc N (.Call (.Name x p) [] kw pos) with
    | some l => have := compF_base e1; simp [baseE] at this
    | none =>
      rw [e1] at h
      simp only [cCall_nil] at h
      split at h <;> cases h
/-! ### targets -/
section
variable {X : Cx} {lv : Nat} {C : Ctx} {G : GI} {sc : Scope} {N : List PySem.Str} {a b c e o : Expr} {es : List Expr} {ia ib ic : E} {ies : Es} {la lb : L} {pos p : Pos} {x : PySem.Str} {tg : Expr} {t : Tg} {ts : Tgs}
theorem tg_head {okf : PySem.Str → Bool} {n : Nat} (h : tgOf okf N n e = some t) (r : List Expr) : assignEach (e :: r) X.env = (false, assign e X.env) :: assignEach r X.env := by
  cases n with
  | zero => simp [tgOf] at h
  | succ n => cases e <;> first | rfl | (simp [tgOf] at h)
theorem s_tg {okf : PySem.Str → Bool} (hN : X.N = N) (nd : N.Nodup) (hc : X.calm = true) (hok : ∀ x, okf x = true → Loc X.env.scope x ∧ (X.fn x = true ∨ X.env.scope.names.lookup x = some .local)) :
    ∀ n : Nat, (∀ {e : Expr} {t : Tg}, tgOf okf N n e = some t → PG X e (tG X.K t)) ∧ (∀ {es : List Expr} {ts : Tgs}, tgsOf okf N n es = some ts → PGs X es (tGs X.K ts) ∧ (assignEach es X.env).length = lenTgs ts ∧ (assignEach es X.env).findIdx? (·.1) = none)
  | 0 => ⟨fun h => by simp [tgOf] at h, fun h => by simp [tgsOf] at h⟩
  | n + 1 => by
    obtain ⟨h1, h2⟩ := s_tg hN nd hc hok n
    refine ⟨fun {e t} h => ?_, fun {es ts} h => ?_⟩
    · cases e <;> first | (simp [tgOf] at h; done) | skip
      · rename_i x pos
        simp only [tgOf] at h
        split at h
        · rename_i hx
          cases e1 : slot N x with
          | none => rw [e1] at h; cases h
          | some i =>
            rw [e1] at h; cases h
            obtain ⟨k1, k2⟩ := hok x hx
            exact tg_nm (pg_name (by rw [hN]; exact nd) (by rw [hN]; exact slot_ok e1) k1 k2)
        · cases h
      · rename_i es k pos
        simp only [tgOf] at h
        cases e1 : tgsOf okf N n es with
        | none => rw [e1] at h; cases h
        | some ts =>
          rw [e1] at h; cases h
          obtain ⟨g1, g2, g3⟩ := h2 e1
          exact tg_tp hc g1 g2 g3
    · cases es with
      | nil =>
        simp only [tgsOf] at h
        cases h
        exact ⟨tgs_nil pgs_nil, rfl, rfl⟩
      | cons e r =>
        simp only [tgsOf] at h
        split at h
        · rename_i t' ts' e1 e2
          cases h
          obtain ⟨g1, g2, g3⟩ := h2 e2
          have hd := tg_head (X := X) e1 r
          refine ⟨tgs_cons (h1 e1) g1 (by rw [hd]; rfl), ?_, ?_⟩
          · rw [hd]; simp only [List.length_cons, lenTgs, g2]
          · rw [hd]
            rw [List.findIdx?_cons, g3]
            rfl
        · cases h
/-! ### handlers -/
theorem star1' (h : plainE a = true) : starEach [a] X.env = (false, eval a X.env) :: starEach [] X.env := star_cons h
theorem isTupE_ok (h : isTupE tg = true) : ∃ es k p, tg = .Tuple es k p := by
  cases tg <;> first | (simp [isTupE] at h; done) | exact ⟨_, _, _, rfl⟩
/-- a call of range -/
theorem s_rng (ok : XOk X lv C G sc N) {f : Expr → Option E} (h : ∀ e i, f e = some i → Ex X C e i) (hp : ∀ e i, f e = some i → plainE e = true) {e : Expr} {q : E × E} (g : cRng f sc e = some q) :
    PRg X e (tR X.K C q.1 q.2) ∧ (∀ tg, PI X tg e (tI X.K C (.rng q.1 q.2))) ∧ plainE e = true := by
  unfold cRng at g
  split at g
  · rename_i x p as kw pos
    split at g
    · rename_i hx
      simp only [Bool.and_eq_true] at hx
      obtain ⟨⟨h1, h2⟩, h3⟩ := hx
      have e1 := eq_of_beq h1
      subst e1
      obtain rfl := List.isEmpty_iff.mp h3
      have hg := ok.gl h2
      have hm := ok.blt0 (b := "range")
      split at g
      · rename_i a
        cases e2 : f a with
        | none => rw [e2] at g; cases g
        | some i =>
          rw [e2] at g; cases g
          exact ⟨rg_1 hg hm (h _ _ e2).pe (star1' (hp _ _ e2)), fun tg => it_rng1 hg hm (h _ _ e2).pe (star1' (hp _ _ e2)), rfl⟩
      · rename_i a b
        split at g
        · rename_i i j e2 e3
          cases g
          exact ⟨rg_2 hg hm (h _ _ e2).pe (h _ _ e3).pe (star_cons (hp _ _ e2)) (star1' (hp _ _ e3)) (back_any fun x hx => by rw [List.mem_singleton.mp hx]; exact hp _ _ e3), fun tg => it_rng2 hg hm (h _ _ e2).pe (h _ _ e3).pe (star_cons (hp _ _ e2)) (star1' (hp _ _ e3)), rfl⟩
        · cases g
      · cases g
    · cases g
  · cases g
/-- in a comprehension's block -/
theorem XOk.blk (ok : XOk X lv C G sc N) (scope : Scope) (s : Shared) (H : Hp) (D : Addr) (cl : List (PySem.Str × Addr)) (fp : List Addr) : XOk (X.blk s H scope (compEnvC scope cl D X.env) fp) lv C G (relS scope sc) N where
  scope := by rw [← ok.scope]; rfl
  names := ok.names
  nd := ok.nd
  calm := ok.calm
  own := PassesOwn.never
  room := ok.room
  fns := ok.fns
  glo := ok.glo
  blt := ok.blt
theorem isLoc_loc (h : isLoc sc x = true) : sc.names.lookup x = some .local ∨ sc.names.lookup x = some .cell := by
  unfold isLoc at h
  split at h
  · exact .inl (by assumption)
  · exact .inr (by assumption)
  · cases h
theorem s_lc (ok : XOk X lv C G sc N) {f : Scope → Expr → Option E} {it : Bool → Expr → Option It} (hf : ∀ (sc' : Scope) (X' : Cx), X'.K = X.K → XOk X' lv C G sc' N → ∀ e i, f sc' e = some i → Ex X' C e i)
    (hi : ∀ tup e i, it tup e = some i → ∀ tg, isTupE tg = tup → PI X tg e (tI X.K C i)) (hip : ∀ tup e i, it tup e = some i → plainE e = true) {n : Nat} {elt tg iter : Expr} {ifs : List Expr} {scope : Scope} {t : Tg} {ii : It} {ix : E} {oc : Oe}
    (e1 : tgOf (isLoc scope) N n tg = some t) (e2 : it (isTupE tg) iter = some ii) (e3 : f (relS scope sc) elt = some ix) (hb : blkC N sc scope (cFresh.slotNames N n tg) = true)
    (hoc : (ifs = [] ∧ oc = .none) ∨ ∃ c ic, ifs = [c] ∧ oc = .some ic ∧ f (relS scope sc) c = some ic) :
    PI X tg iter (tI X.K C ii) ∧ BlkOk X.N X.env.scope scope (cFresh.slotNames N n tg) ∧
    (∀ (s : Shared) (H : Hp) (D : Addr) (cl : List (PySem.Str × Addr)) (fp : List Addr), PG (X.blk s H scope (compEnvC scope cl D X.env) fp) tg (tG X.K t)) ∧
    (∀ (s : Shared) (H : Hp) (D : Addr) (cl : List (PySem.Str × Addr)) (fp : List Addr), PTs (X.blk s H scope (compEnvC scope cl D X.env) fp) ifs (tC' X.K C oc)) ∧
    (∀ (s : Shared) (H : Hp) (D : Addr) (cl : List (PySem.Str × Addr)) (fp : List Addr), PE (X.blk s H scope (compEnvC scope cl D X.env) fp) elt (tE X.K C ix)) ∧ (∀ x, foldedSetIterable iter X.env x = pure x) := by
  refine ⟨hi _ _ _ e2 tg rfl, by rw [ok.names, ok.scope]; exact blkOk_by hb, fun s H D cl fp => ?_, fun s H D cl fp => ?_, fun s H D cl fp => (hf _ (X.blk s H scope (compEnvC scope cl D X.env) fp) rfl (ok.blk scope s H D cl fp) _ _ e3).pe, noFold (hip _ _ _ e2)⟩
  · refine (s_tg (X := X.blk s H scope (compEnvC scope cl D X.env) fp) (okf := isLoc scope) ok.names ok.nd ok.calm (fun x hx => ?_) n).1 e1
    rcases isLoc_loc hx with q | q
    · have q' : (relS scope X.env.scope).names.lookup x = some .local := lookup_relS_keep (by decide) q
      exact ⟨.inl q', .inr q'⟩
    · have q' : (relS scope X.env.scope).names.lookup x = some .cell := lookup_relS_keep (by decide) q
      refine ⟨.inr q', .inl ?_⟩
      show (scope.names.lookup x == some .cell) = true
      rw [q]; rfl
  · rcases hoc with ⟨rfl, rfl⟩ | ⟨c, ic, rfl, rfl, e4⟩
    · exact tc_none (X := X.blk s H scope (compEnvC scope cl D X.env) fp)
    · exact tc_some (X := X.blk s H scope (compEnvC scope cl D X.env) fp) (hf _ (X.blk s H scope (compEnvC scope cl D X.env) fp) rfl (ok.blk scope s H D cl fp) _ _ e4).pt
/-- what the check of a comprehension gives -/
theorem lc_inv {n : Nat} {f : Scope → Expr → Option E} {g l it} {elt : Expr} {gs : List Comprehension} {scope : Scope} {y : L} (h : cFresh n f g l it sc N (.ListComp elt gs scope pos) = some y) :
    ∃ tg iter ifs t ii ix oc, gs = [⟨tg, iter, ifs, 0⟩] ∧ tgOf (isLoc scope) N n tg = some t ∧ it (isTupE tg) iter = some ii ∧ f (relS scope sc) elt = some ix ∧ blkC N sc scope (cFresh.slotNames N n tg) = true ∧
      (∀ i ∈ slotsT t, i ∈ (cFresh.slotNames N n tg).map (·.2)) ∧ ((ifs = [] ∧ oc = .none) ∨ ∃ c ic, ifs = [c] ∧ oc = .some ic ∧ f (relS scope sc) c = some ic) ∧ y = .comp ((cFresh.slotNames N n tg).map (·.2)) t ii oc ix := by
  simp only [cFresh] at h
  split at h
  · rename_i tg iter ifs as
    split at h
    · rename_i h0
      have h0 := eq_of_beq h0
      subst h0
      split at h
      · rename_i t ii ix e1 e2 e3
        split at h
        · rename_i hb
          simp only [Bool.and_eq_true, List.all_eq_true, List.any_eq_true] at hb
          have hs : ∀ i ∈ slotsT t, i ∈ (cFresh.slotNames N n tg).map (·.2) := fun i hi => by
            obtain ⟨p, hp, e⟩ := hb.2 i hi
            exact List.mem_map.mpr ⟨p, hp, eq_of_beq e⟩
          split at h
          · cases h
            exact ⟨tg, iter, [], t, ii, ix, .none, rfl, e1, e2, e3, hb.1, hs, .inl ⟨rfl, rfl⟩, rfl⟩
          · rename_i c
            split at h
            · rename_i ic e4
              cases h
              exact ⟨tg, iter, [c], t, ii, ix, .some ic, rfl, e1, e2, e3, hb.1, hs, .inr ⟨c, ic, rfl, rfl, e4⟩, rfl⟩
            · cases h
          · cases h
        · cases h
      · cases h
    · cases h
  · cases h
theorem s_fresh (ok : XOk X lv C G sc N) {n : Nat} {f : Scope → Expr → Option E} {g l : Expr → Option L} {it : Bool → Expr → Option It}
    (hf : ∀ (sc' : Scope) (X' : Cx), X'.K = X.K → XOk X' lv C G sc' N → ∀ e i, f sc' e = some i → Ex X' C e i) (hfp : ∀ sc' e i, f sc' e = some i → plainE e = true)
    (hg : ∀ e y, g e = some y → PF X C e y) (hgp : ∀ e y, g e = some y → plainE e = true)
    (hl : ∀ e y, l e = some y → PE X e (tL X.K C y)) (hlp : ∀ e y, l e = some y → plainE e = true)
    (hi : ∀ tup e i, it tup e = some i → ∀ tg, isTupE tg = tup → PI X tg e (tI X.K C i)) (hip : ∀ tup e i, it tup e = some i → plainE e = true)
    {e : Expr} {y : L} (h : cFresh n f g l it sc N e = some y) : PF X C e y := by
  have hf0 : ∀ e i, f sc e = some i → Ex X C e i := hf sc X rfl ok
  cases e with
  | List es k =>
    simp only [cFresh] at h
    split at h
    · rename_i hl
      cases e1 : toEs (f sc) es with
      | none => rw [e1] at h; cases h
      | some is =>
        rw [e1] at h; cases h
        obtain ⟨g1, g2, g3⟩ := as_of (fun e i q => (hf0 e i q).pe) (hfp sc) e1
        exact pf_lit g1 (by rw [g2]; exact hl)
    · cases h
  | BinOp a op b k =>
    cases op <;> simp only [cFresh] at h <;> first | (cases h; done) | skip
    split at h
    · rename_i x y e1 e2
      cases h
      exact pf_cat (hg _ _ e1) (hg _ _ e2)
    · cases h
  | ListComp elt gs scope k =>
    obtain ⟨tg, iter, ifs, t, ii, ix, oc, rfl, e1, e2, e3, hb, hs, hoc, rfl⟩ := lc_inv h
    obtain ⟨k1, k2, k3, k4, k5, k6⟩ := s_lc ok hf hi hip e1 e2 e3 hb hoc
    exact pf_comp hs (pe_lc ok.calm (by rw [ok.names]; exact ok.nd) k1 k2 k3 k4 k5 k6)
  | Call fe as kw k =>
    cases fe <;> first | (simp [cFresh] at h; done) | skip
    rename_i x p
    cases as with
    | nil => simp [cFresh] at h
    | cons a r =>
      cases r with
      | cons _ _ => simp [cFresh] at h
      | nil =>
        simp only [cFresh] at h
        split at h
        · rename_i hx
          simp only [Bool.and_eq_true] at hx
          obtain ⟨h1, h2⟩ := hx
          obtain rfl := List.isEmpty_iff.mp h1
          split at h
          · rename_i hx
            have e1 := eq_of_beq hx
            subst e1
            split at h
            · rename_i q e2
              cases h
              obtain ⟨g1, g2, g3⟩ := s_rng ok hf0 (hfp sc) e2
              exact pf_rng ok.calm (ok.gl h2) (ok.blt0 (b := "list")) g1 (star1' g3)
            · cases e3 : l a with
              | none => rw [e3] at h; cases h
              | some y =>
                rw [e3] at h; cases h
                exact pf_lof (ok.gl h2) (ok.blt0 (b := "list")) (hl _ _ e3) (star1' (hlp _ _ e3))
          · split at h
            · rename_i hx
              have e1 := eq_of_beq hx
              subst e1
              cases e3 : g a with
              | none => rw [e3] at h; cases h
              | some y =>
                rw [e3] at h; cases h
                exact pf_srt (ok.gl h2) (ok.blt0 (b := "sorted")) (hg _ _ e3) (star1' (hgp _ _ e3))
            · cases h
        · cases h
  | _ => simp [cFresh] at h
/-- a subscript -/
theorem s_sub (ok : XOk X lv C G sc N) {f : Expr → Option E} (hf : ∀ e i, f e = some i → Ex X C e i) (hp : ∀ e i, f e = some i → plainE e = true) {i : E} (h : cSub f a b = some i) : Ex X C (.Subscript a b pos) i := by
  have hO : ∀ {o : Option Expr} {io : Oe}, cSub.cO f o = some io → PO X o (tO X.K C io) := fun {o io} q => by
    cases o with
    | none => cases q; exact o_none
    | some e =>
      have q : (f e).map Oe.some = some io := q
      cases e1 : f e with
      | none => rw [e1] at q; cases q
      | some i => rw [e1] at q; cases q; exact o_some (hf _ _ e1).pe
  unfold cSub at h
  split at h
  · rename_i lo hi st p2
    split at h
    · cases h
    · split at h
      · rename_i x u v e1 e2 e3
        cases h
        exact .of (ex_sl (hf _ _ e1).pe (hO e2) (hO e3)) fun _ => rfl
      · cases h
  · split at h
    · rename_i x y e1 e2
      cases h
      exact .of (ex_ix (hf _ _ e1).pe (hf _ _ e2).pe (plainIx (hp _ _ e2))) fun _ => rfl
    · cases h
/-- a list's method -/
theorem s_meth (ok : XOk X lv C G sc N) {f : Expr → Option E} (hf : ∀ e i, f e = some i → Ex X C e i) (hp : ∀ e i, f e = some i → plainE e = true) (hb : ∀ e i, f e = some i → ∀ x p kw pos, e ≠ .Call (.Name x p) [] kw pos)
    {name : PySem.Str} {ap cp : Pos} {i : E} (h : cMeth f o name ap es cp = some i) : Ex X C (.Call (.Attribute o name ap) es [] cp) i := by
  unfold cMeth at h
  split at h
  · rename_i hl
    simp only [Bool.and_eq_true, decide_eq_true_eq] at hl
    obtain ⟨hl, h5⟩ := hl
    split at h
    · rename_i m io is e1 e2 e3
      obtain ⟨g1, g2, g3⟩ := as_of (fun e i q => (hf e i q).pe) hp e3
      have bs : attributeBase o name X.env (eval o X.env) = eval o X.env := attr_base (hb _ _ e2)
      have few : ∀ {pos : Pos}, ((backTo pos (starEach es X.env)).all (fun x => !x.1) && (backToKw pos (keywordEach [] X.env)).all (fun x => x.1.isSome)
          && decide (es.length + ([] : List Keyword).length + (if ([] : List Keyword).isEmpty then 0 else 1) < 30)) = true := fun {pos} => by
        rw [back_all g3]
        show (true && true && decide _) = true
        simp only [Bool.true_and, decide_eq_true_eq, List.length_nil, List.isEmpty_nil, if_true]
        omega
      unfold mOf at e1
      have tr : ∀ {i : E}, PE X (.Call (.Attribute o name ap) es [] cp) (tE X.K C i) → Ex X C (.Call (.Attribute o name ap) es [] cp) i := fun q => .of q fun _ => rfl
      split at e1
      · rename_i hx
        obtain rfl := eq_of_beq hx
        cases e1
        cases is with
        | nil => cases h
        | cons a r =>
          cases h
          cases es with
          | nil => simp [lenEs] at g2
          | cons a' r' => exact tr (ex_m PySem.F.slot_list_append PySem.F.type_list_append (MtR.ne m_append) (hf _ _ e2).pe g1 (by rw [g2]; simp) bs few hl (star_cons (g3 _ List.mem_cons_self)) (back_any fun x hx => g3 x (List.mem_cons_of_mem _ hx)))
      · split at e1
        · rename_i hx
          obtain rfl := eq_of_beq hx
          cases e1
          cases h
          cases es with
          | nil => cases e3; exact tr (ex_m0 PySem.F.slot_list_pop PySem.F.type_list_pop m_pop0 (hf _ _ e2).pe bs hl)
          | cons a' r' => exact tr (ex_m PySem.F.slot_list_pop PySem.F.type_list_pop m_pop1 (hf _ _ e2).pe g1 (by rw [g2]; simp) bs few hl (star_cons (g3 _ List.mem_cons_self)) (back_any fun x hx => g3 x (List.mem_cons_of_mem _ hx)))
        · split at e1
          · rename_i hx
            obtain rfl := eq_of_beq hx
            cases e1
            cases is with
            | nil => cases h
            | cons a r =>
              cases h
              cases es with
              | nil => simp [lenEs] at g2
              | cons a' r' => exact tr (ex_m PySem.F.slot_list_extend PySem.F.type_list_extend (MtR.ne m_extend) (hf _ _ e2).pe g1 (by rw [g2]; simp) bs few hl (star_cons (g3 _ List.mem_cons_self)) (back_any fun x hx => g3 x (List.mem_cons_of_mem _ hx)))
          · split at e1
            · rename_i hx
              obtain rfl := eq_of_beq hx
              cases e1
              cases is with
              | cons a r => cases h
              | nil =>
                cases h
                cases es with
                | nil => exact tr (ex_m0 PySem.F.slot_list_reverse PySem.F.type_list_reverse (MtR.nil m_reverse) (hf _ _ e2).pe bs hl)
                | cons a' r' => simp [lenEs] at g2
            · split at e1
              · rename_i hx
                obtain rfl := eq_of_beq hx
                cases e1
                cases is with
                | cons a r => cases h
                | nil =>
                  cases h
                  cases es with
                  | nil => exact tr (ex_m0 PySem.F.slot_list_clear PySem.F.type_list_clear (MtR.nil m_clear) (hf _ _ e2).pe bs hl)
                  | cons a' r' => simp [lenEs] at g2
              · cases e1
    · cases h
  · cases h
theorem s_idx (ok : XOk X lv C G sc N) {f : Expr → Option E} (hf : ∀ e i, f e = some i → Ex X C e i) (hp : ∀ e i, f e = some i → plainE e = true) (hb : ∀ e i, f e = some i → ∀ x p kw pos, e ≠ .Call (.Name x p) [] kw pos)
    {name : PySem.Str} {ap cp : Pos} {i : E} (h : cIdx G f sc o name ap es cp = some i) : Ex X C (.Call (.Attribute o name ap) es [] cp) i := by
  unfold cIdx at h
  split at h
  · rename_i hl
    simp only [Bool.and_eq_true] at hl
    obtain ⟨h1, h2⟩ := hl
    obtain rfl := eq_of_beq h1
    split at h
    · rename_i a
      split at h
      · rename_i x e1
        cases e2 : f a with
        | none => rw [e2] at h; cases h
        | some j =>
          rw [e2] at h; cases h
          unfold cIdx.gName at e1
          split at e1
          · rename_i y p
            by_cases hc : (isGl sc y && G.glo.contains y && noDbg y) = true
            · rw [if_pos hc] at e1
              cases e1
              simp only [Bool.and_eq_true] at hc
              exact .of (ex_idxG ok hc.1.1 hc.1.2 hc.2 (hf _ _ e2).pe (hp _ _ e2) h2) fun _ => rfl
            · rw [if_neg hc] at e1; cases e1
          · cases e1
      · split at h
        · rename_i i1 i2 e1 e2
          cases h
          exact .of (ex_idx ok (hf _ _ e1).pe (hf _ _ e2).pe (attr_base (hb _ _ e1)) (hp _ _ e2) h2) fun _ => rfl
        · cases h
    · cases h
  · cases h
end
end PX
end
section
/-! PX, soundness 11: calls, iterables, the induction over expressions -/
namespace PX
open PySem PySem.Spec PyProof.Rows L2
section
variable {X : Cx} {lv : Nat} {C : Ctx} {G : GI} {sc : Scope} {N : List PySem.Str} {a b c e o : Expr} {es : List Expr} {ia ib ic : E} {ies : Es} {la lb : L} {pos p : Pos} {x : PySem.Str} {tg : Expr} {t : Tg} {ts : Tgs}
theorem tyOf_ok {t : Ty} (h : tyOf x = some t) : bootBuiltins x = some (.type (tyN t)) ∧ x ∈ bltNames ∧ x ≠ "__name__" ∧ (x == ("__debug__" : PySem.Str)) = false := by
  unfold tyOf at h
  split at h
  · rename_i hx; obtain rfl := eq_of_beq hx; cases h; exact ⟨PyProof.Rows.boot_int, by decide, by decide, by decide⟩
  · split at h
    · rename_i hx; obtain rfl := eq_of_beq hx; cases h; exact ⟨PyProof.Rows.boot_bool, by decide, by decide, by decide⟩
    · split at h
      · rename_i hx; obtain rfl := eq_of_beq hx; cases h; exact ⟨PyProof.Rows.boot_str, by decide, by decide, by decide⟩
      · split at h
        · rename_i hx; obtain rfl := eq_of_beq hx; cases h; exact ⟨PyProof.Rows.boot_tuple, by decide, by decide, by decide⟩
        · split at h
          · rename_i hx; obtain rfl := eq_of_beq hx; cases h; exact ⟨PyProof.Rows.boot_list, by decide, by decide, by decide⟩
          · cases h
theorem pe_tyn (ok : XOk X lv C G sc N) {t : Ty} (h : tyOf x = some t) (hg : isGl sc x = true) : PE X (.Name x p) (tC (.ty (tyN t))) := by
  obtain ⟨h1, h2, h3, h4⟩ := tyOf_ok h
  exact pe_bltn (v := .ty (tyN t)) (ok.gl hg) (ok.blt x h2) h1 rfl h3 h4
section
variable {f : Expr → Option E} {g l : Expr → Option L} (ok : XOk X lv C G sc N) (hf : ∀ e i, f e = some i → Ex X C e i) (hfp : ∀ e i, f e = some i → plainE e = true)
  (hg : ∀ e y, g e = some y → PF X C e y) (hgp : ∀ e y, g e = some y → plainE e = true) (hl : ∀ e y, l e = some y → PE X e (tL X.K C y)) (hlp : ∀ e y, l e = some y → plainE e = true)
include ok hf hfp
theorem s_b1 {id : String} {o : B} (hc : CallR X (.builtin id) (rDs X.K (bcall o))) (hx : x ∈ bltNames) (hgl : isGl sc x = true) (hd : noDbg x = true) (hv : bootBuiltins x = some (.builtin id)) {i : E} (h : (f a).map (fun i => E.b o (.cons i .nil)) = some i) : Ex X C (.Call (.Name x p) [a] [] pos) i := by
  cases e1 : f a with
  | none => rw [e1] at h; cases h
  | some j =>
    rw [e1] at h; cases h
    have hs := star1' (X := X) (hfp _ _ e1)
    exact .of (ex_b hc (ok.gl hgl) (ok.blt x hx) hv (as_cons (hf _ _ e1).pe as_nil hs) (dbg_ok hd).2.2 (dbg_ok hd).1 hs rfl) fun _ => rfl
theorem s_b2 {id : String} {o : B} (hc : CallR X (.builtin id) (rDs X.K (bcall o))) (hx : x ∈ bltNames) (hgl : isGl sc x = true) (hd : noDbg x = true) (hv : bootBuiltins x = some (.builtin id)) {i : E}
    (h : (match f a, f b with | some i, some j => some (E.b o (.cons i (.cons j .nil))) | _, _ => none) = some i) : Ex X C (.Call (.Name x p) [a, b] [] pos) i := by
  split at h
  · rename_i i j e1 e2
    cases h
    have hs : starEach [a, b] X.env = (false, eval a X.env) :: starEach [b] X.env := star_cons (hfp _ _ e1)
    have hs2 := star1' (X := X) (hfp _ _ e2)
    exact .of (ex_b hc (ok.gl hgl) (ok.blt x hx) hv (as_cons (hf _ _ e1).pe (as_cons (hf _ _ e2).pe as_nil hs2) hs) (dbg_ok hd).2.2 (dbg_ok hd).1 hs (by rw [hs2]; rfl)) fun _ => rfl
  · cases h
include hg hgp
omit hf hfp in
theorem s_l1 {fl : LB} (hc : ∀ {a y}, PF X C a y → starEach [a] X.env = (false, eval a X.env) :: starEach [] X.env → PE X (.Call (.Name x p) [a] [] pos) (tE X.K C (.lb fl y))) {i : E} (h : (g a).map (E.lb fl) = some i) : Ex X C (.Call (.Name x p) [a] [] pos) i := by
  cases e1 : g a with
  | none => rw [e1] at h; cases h
  | some y =>
    rw [e1] at h; cases h
    exact .of (hc (hg _ _ e1) (star1' (hgp _ _ e1))) fun _ => rfl
include hl hlp
theorem s_call {as : List Expr} {i : E} (h : cCall G f g l sc x as = some i) : Ex X C (.Call (.Name x p) as [] pos) i := by
  unfold cCall at h
  by_cases h0 : (!(isGl sc x && noDbg x)) = true
  · rw [if_pos h0] at h; cases h
  rw [if_neg h0] at h
  have hh : isGl sc x = true ∧ noDbg x = true := by simpa using h0
  obtain ⟨hgl, hd⟩ := hh
  clear h0
  have gl := ok.gl hgl
  cases e0 : G.fns.lookup x with
  | some k =>
    rw [e0] at h
    dsimp only at h
    cases as with
    | nil => cases h
    | cons a r =>
      dsimp only at h
      cases e1 : toEs f (a :: r) with
      | none => rw [e1] at h; cases h
      | some ies =>
        rw [e1] at h
        dsimp only at h
        by_cases hk : ((a :: r).length == k) = true
        · rw [if_pos hk] at h
          cases h
          obtain ⟨g1, g2, g3⟩ := as_of (fun e i q => (hf e i q).pe) hfp e1
          obtain ⟨fa, fd, ps, f1, f2, f3, f4⟩ := ok.fns x k e0
          exact .of (ex_call f3 ok.room gl f1 f2 f4 g1 (by rw [g2]; exact eq_of_beq hk) (dbg_ok hd).1 (star_cons (g3 _ List.mem_cons_self)) (back_any fun x hx => g3 x (List.mem_cons_of_mem _ hx))) fun _ => rfl
        · rw [if_neg hk] at h; cases h
  | none =>
    rw [e0] at h
    dsimp only at h
    by_cases x1 : (x == ("len" : PySem.Str)) = true
    · rw [if_pos x1] at h
      obtain rfl := eq_of_beq x1
      cases as with
      | nil => cases h
      | cons a r =>
        cases r with
        | cons _ _ => cases h
        | nil =>
          dsimp only at h
          cases e1 : g a with
          | some y => rw [e1] at h; cases h; exact .of (ex_lenL gl ok.blt0 (hg _ _ e1) (star1' (hgp _ _ e1))) fun _ => rfl
          | none => rw [e1] at h; exact s_b1 ok hf hfp b_len (by decide) hgl hd PySem.boot_len h
    rw [if_neg x1] at h; clear x1
    by_cases x1 : (x == ("int" : PySem.Str)) = true
    · rw [if_pos x1] at h
      obtain rfl := eq_of_beq x1
      cases as with
      | nil => cases h
      | cons a r =>
        cases r with
        | cons _ _ => cases h
        | nil =>
          dsimp only at h
          cases e1 : f a with
          | none => rw [e1] at h; cases h
          | some j =>
            rw [e1] at h; cases h
            have hs := star1' (X := X) (hfp _ _ e1)
            exact .of (ex_bTy b_int gl ok.blt0 PyProof.Rows.boot_int (as_cons (hf _ _ e1).pe as_nil hs) (dbg_ok hd).2.2 (dbg_ok hd).1 hs rfl) fun _ => rfl
    rw [if_neg x1] at h; clear x1
    by_cases x1 : (x == ("abs" : PySem.Str)) = true
    · rw [if_pos x1] at h
      obtain rfl := eq_of_beq x1
      cases as with
      | nil => cases h
      | cons a r =>
        cases r with
        | cons _ _ => cases h
        | nil => exact s_b1 ok hf hfp b_abs (by decide) hgl hd PyProof.Rows.boot_abs h
    rw [if_neg x1] at h; clear x1
    by_cases x1 : (x == ("divmod" : PySem.Str)) = true
    · rw [if_pos x1] at h
      obtain rfl := eq_of_beq x1
      cases as with
      | nil => cases h
      | cons a r =>
        cases r with
        | nil => cases h
        | cons b r =>
          cases r with
          | cons _ _ => cases h
          | nil => exact s_b2 ok hf hfp b_divmod (by decide) hgl hd PyProof.Rows.boot_divmod h
    rw [if_neg x1] at h; clear x1
    by_cases x1 : (x == ("min" : PySem.Str)) = true
    · rw [if_pos x1] at h
      obtain rfl := eq_of_beq x1
      cases as with
      | nil => cases h
      | cons a r =>
        cases r with
        | nil => exact s_l1 ok hg hgp (fun q w => ex_min ok.calm gl ok.blt0 q w) h
        | cons b r =>
          cases r with
          | cons _ _ => cases h
          | nil => exact s_b2 ok hf hfp (b_min2 ok.calm) (by decide) hgl hd PyProof.Rows.boot_min h
    rw [if_neg x1] at h; clear x1
    by_cases x1 : (x == ("max" : PySem.Str)) = true
    · rw [if_pos x1] at h
      obtain rfl := eq_of_beq x1
      cases as with
      | nil => cases h
      | cons a r =>
        cases r with
        | nil => exact s_l1 ok hg hgp (fun q w => ex_max ok.calm gl ok.blt0 q w) h
        | cons b r =>
          cases r with
          | cons _ _ => cases h
          | nil => exact s_b2 ok hf hfp (b_max2 ok.calm) (by decide) hgl hd PyProof.Rows.boot_max h
    rw [if_neg x1] at h; clear x1
    by_cases x1 : (x == ("tuple" : PySem.Str)) = true
    · rw [if_pos x1] at h
      obtain rfl := eq_of_beq x1
      cases as with
      | nil => cases h
      | cons a r =>
        cases r with
        | cons _ _ => cases h
        | nil =>
          dsimp only at h
          cases e1 : cRng f sc a with
          | some q =>
            rw [e1] at h; cases h
            obtain ⟨g1, g2, g3⟩ := s_rng ok hf hfp e1
            exact .of (ex_tupR ok.calm gl ok.blt0 g1 (star1' g3)) fun _ => rfl
          | none =>
            rw [e1] at h
            cases e2 : l a with
            | none => rw [e2] at h; cases h
            | some y => rw [e2] at h; cases h; exact .of (ex_tuple gl ok.blt0 (hl _ _ e2) (star1' (hlp _ _ e2))) fun _ => rfl
    rw [if_neg x1] at h; clear x1
    by_cases x1 : (x == ("any" : PySem.Str)) = true
    · rw [if_pos x1] at h
      obtain rfl := eq_of_beq x1
      cases as with
      | nil => cases h
      | cons a r =>
        cases r with
        | cons _ _ => cases h
        | nil => exact s_l1 ok hg hgp (fun q w => ex_any ok.calm gl ok.blt0 q w) h
    rw [if_neg x1] at h; clear x1
    by_cases x1 : (x == ("all" : PySem.Str)) = true
    · rw [if_pos x1] at h
      obtain rfl := eq_of_beq x1
      cases as with
      | nil => cases h
      | cons a r =>
        cases r with
        | cons _ _ => cases h
        | nil => exact s_l1 ok hg hgp (fun q w => ex_all ok.calm gl ok.blt0 q w) h
    rw [if_neg x1] at h; clear x1
    by_cases x1 : (x == ("sum" : PySem.Str)) = true
    · rw [if_pos x1] at h
      obtain rfl := eq_of_beq x1
      cases as with
      | nil => cases h
      | cons a r =>
        cases r with
        | cons _ _ => cases h
        | nil => exact s_l1 ok hg hgp (fun q w => ex_sum ok.calm gl ok.blt0 q w) h
    rw [if_neg x1] at h; clear x1
    by_cases x1 : (x == ("isinstance" : PySem.Str)) = true
    · rw [if_pos x1] at h
      obtain rfl := eq_of_beq x1
      split at h
      · rename_i a t pt
        split at h
        · rename_i ty j e1 e2
          by_cases ht : isGl sc t = true
          · rw [if_pos ht] at h
            cases h
            have hs : starEach [a, .Name t pt] X.env = (false, eval a X.env) :: starEach [.Name t pt] X.env := star_cons (hfp _ _ e2)
            exact .of (ex_isin1 (q := pos) (pt := pos) gl ok.blt0 (hf _ _ e2).pe (pe_tyn ok e1 ht) hs rfl rfl) fun _ => rfl
          · rw [if_neg ht] at h; cases h
        · cases h
      · rename_i a t pt u pu k pp
        split at h
        · rename_i ty ty' j e1 e2 e3
          by_cases ht : (isGl sc t && isGl sc u) = true
          · rw [if_pos ht] at h
            cases h
            rw [Bool.and_eq_true] at ht
            have hs : starEach [a, .Tuple [.Name t pt, .Name u pu] k pp] X.env = (false, eval a X.env) :: starEach [.Tuple [.Name t pt, .Name u pu] k pp] X.env := star_cons (hfp _ _ e3)
            exact .of (ex_isin2 gl ok.blt0 (hf _ _ e3).pe (pe_tyn ok e1 ht.1) (pe_tyn ok e2 ht.2) hs rfl rfl) fun _ => rfl
          · rw [if_neg ht] at h; cases h
        · cases h
      · cases h
    rw [if_neg x1] at h
    cases h
end
/-- what is walked -/
theorem s_iter (ok : XOk X lv C G sc N) {f : Expr → Option E} {g : Expr → Option L} (hf : ∀ e i, f e = some i → Ex X C e i) (hfp : ∀ e i, f e = some i → plainE e = true) (hg : ∀ e y, g e = some y → PF X C e y) (hgp : ∀ e y, g e = some y → plainE e = true)
    {tup : Bool} {i : It} (h : (match cRng f sc e with
    | some p => some (It.rng p.1 p.2)
    | none => match g e with
      | some l => some (.sq l)
      | none => match cZip f sc tup e with
        | some i => some i
        | none => (f e).map fun i => .sq (.ofv i)) = some i) (ht : isTupE tg = tup) : PI X tg e (tI X.K C i) ∧ plainE e = true := by
  split at h
  · rename_i q e1
    cases h
    obtain ⟨g1, g2, g3⟩ := s_rng ok hf hfp e1
    exact ⟨g2 tg, g3⟩
  · split at h
    · rename_i y e1
      cases h
      exact ⟨it_fresh (hg _ _ e1), hgp _ _ e1⟩
    · split at h
      · rename_i i' e1
        cases h
        unfold cZip at e1
        split at e1
        · skip
          rename_i x p a kw pos _ _
          split at e1
          · rename_i hx
            simp only [Bool.and_eq_true] at hx
            obtain ⟨⟨⟨h1, h2⟩, h3⟩, h4⟩ := hx
            obtain rfl := eq_of_beq h1
            obtain rfl := List.isEmpty_iff.mp h3
            rw [h4] at ht
            obtain ⟨es, k, tp, rfl⟩ := isTupE_ok ht
            cases e2 : f a with
            | none => rw [e2] at e1; cases e1
            | some i =>
              rw [e2] at e1; cases e1
              exact ⟨it_enu (ok.gl h2) (ok.blt0 (b := "enumerate")) (hf _ _ e2).pe (star1' (hfp _ _ e2)), rfl⟩
          · cases e1
        · rename_i x p as kw pos _
          split at e1
          · rename_i hx
            simp only [Bool.and_eq_true] at hx
            obtain ⟨⟨⟨h1, h2⟩, h3⟩, h4⟩ := hx
            obtain rfl := eq_of_beq h1
            obtain rfl := List.isEmpty_iff.mp h3
            rw [h4] at ht
            obtain ⟨es, k, tp, rfl⟩ := isTupE_ok ht
            split at e1
            · rename_i a b
              split at e1
              · rename_i i j e2 e3
                cases e1
                exact ⟨it_zip (ok.gl h2) (ok.blt0 (b := "zip")) (hf _ _ e2).pe (hf _ _ e3).pe (star_cons (hfp _ _ e2)) (star1' (hfp _ _ e3)), rfl⟩
              · cases e1
            · cases e1
          · cases e1
        · cases e1
      · cases e1 : f e with
        | none => rw [e1] at h; cases h
        | some j => rw [e1] at h; cases h; exact ⟨it_ofv (hf _ _ e1).pe, hfp _ _ e1⟩
end
theorem compI_plain {G : GI} {n : Nat} {sc : Scope} {N : List PySem.Str} {tup : Bool} {e : Expr} {i : It} (h : compI G n sc N tup e = some i) : plainE e = true := by
  cases n with
  | zero => simp [compI] at h
  | succ n =>
    simp only [compI] at h
    split at h
    · rename_i q e1
      unfold cRng at e1
      split at e1
      · rfl
      · cases e1
    · split at h
      · rename_i y e1; exact compF_plain e1
      · split at h
        · rename_i i' e1
          unfold cZip at e1
          split at e1
          · rfl
          · rfl
          · cases e1
        · cases e1 : compE G n sc N e with
          | none => rw [e1] at h; cases h
          | some j => exact compE_plain e1
/-- expressions, by fuel -/
theorem s_all {lv : Nat} {C : Ctx} {G : GI} {N : List PySem.Str} : ∀ n : Nat, ∀ (sc : Scope) (X : Cx), XOk X lv C G sc N →
    (∀ e i, compE G n sc N e = some i → Ex X C e i) ∧ (∀ e y, compF G n sc N e = some y → PF X C e y) ∧ (∀ e y, compL G n sc N e = some y → PE X e (tL X.K C y)) ∧
    (∀ tup e i, compI G n sc N tup e = some i → ∀ tg, isTupE tg = tup → PI X tg e (tI X.K C i))
  | 0, sc, X, ok => ⟨fun e i h => by simp [compE] at h, fun e i h => by simp [compF] at h, fun e i h => by simp [compL] at h, fun t e i h => by simp [compI] at h⟩
  | n + 1, sc, X, ok => by
    obtain ⟨hE, hF, hL, hI⟩ := s_all n sc X ok
    have pE : ∀ e i, compE G n sc N e = some i → plainE e = true := fun _ _ h => compE_plain h
    have pF : ∀ e i, compF G n sc N e = some i → plainE e = true := fun _ _ h => compF_plain h
    have pL : ∀ e i, compL G n sc N e = some i → plainE e = true := fun _ _ h => compL_plain h
    refine ⟨fun e i h => ?_, fun e y h => ?_, fun e y h => ?_, fun tup e i h tg ht => ?_⟩
    · simp only [compE] at h
      cases e1 : compF G n sc N e with
      | some l =>
        rw [e1] at h; cases h
        have hp := pF _ _ e1
        have pe := ex_lst (hF _ _ e1)
        cases e with
        | List es k => exact .of pe fun _ => rfl
        | BinOp a op b k => exact .of pe fun _ => rfl
        | ListComp elt gs s k => exact .of pe fun _ => rfl
        | Call fe as kw k => exact .of pe fun _ => rfl
        | _ => exact absurd e1 (by cases n <;> simp [compF, cFresh])
      | none =>
        rw [e1] at h
        dsimp only at h
        cases e with
        | Name x p => exact s_name ok h
        | Constant k j p => exact s_const h
        | Tuple es k p =>
          dsimp only at h
          by_cases hl : es.length ≤ 1000
          · rw [if_pos hl] at h
            cases e2 : toEs (compE G n sc N) es with
            | none => rw [e2] at h; cases h
            | some is =>
              rw [e2] at h; cases h
              obtain ⟨g1, g2, g3⟩ := as_of (fun e i q => (hE e i q).pe) pE e2
              exact .of (ex_tup g1 (by rw [g2]; exact hl)) fun _ => rfl
          · rw [if_neg hl] at h; cases h
        | BinOp a op b k =>
          dsimp only at h
          split at h
          · rename_i o i j e2 e3 e4
            cases h
            exact s_bop e2 (hE _ _ e3).pe (hE _ _ e4).pe
          · cases h
        | UnaryOp op a k =>
          cases op <;> dsimp only at h <;> first | (cases h; done) | skip
          · cases e2 : compE G n sc N a with
            | none => rw [e2] at h; cases h
            | some i => rw [e2] at h; cases h; exact ⟨ex_not (hE _ _ e2).pe, te_not (hE _ _ e2).pt⟩
          · cases e2 : compE G n sc N a with
            | none => rw [e2] at h; cases h
            | some i => rw [e2] at h; cases h; exact .of (ex_neg (hE _ _ e2).pe) fun _ => rfl
        | BoolOp op vs k =>
          dsimp only at h
          split at h
          · obtain ⟨g1, g2⟩ := s_bool (X := X) (C := C) (f := compE G n sc N) hE h
            exact ⟨g1, g2.pt⟩
          · cases h
        | Compare a ops bs k => exact s_cmp ok (fun e i q => (hE e i q).pe) pE h
        | IfExp c a b k =>
          dsimp only at h
          split at h
          · rename_i i1 i2 i3 e2 e3 e4
            cases h
            exact ⟨ex_ife (hE _ _ e2).pt (hE _ _ e3).pe (hE _ _ e4).pe, te_ife (hE _ _ e2).pt (hE _ _ e3).pt (hE _ _ e4).pt⟩
          · cases h
        | Call fe as kw k =>
          cases fe with
          | Name x p =>
            dsimp only at h
            by_cases hk : kw.isEmpty = true
            · rw [if_pos hk] at h
              obtain rfl := List.isEmpty_iff.mp hk
              exact s_call ok hE pE hF pF hL pL h
            · rw [if_neg hk] at h; cases h
          | Attribute o name ap =>
            dsimp only at h
            by_cases hk : kw.isEmpty = true
            · rw [if_pos hk] at h
              obtain rfl := List.isEmpty_iff.mp hk
              split at h
              · rename_i i' e2
                cases h
                exact s_idx ok hE pE (fun _ _ q => compE_noCall0 q) e2
              · exact s_meth ok hE pE (fun _ _ q => compE_noCall0 q) h
            · rw [if_neg hk] at h; cases h
          | _ => cases h
        | Subscript a i k => exact s_sub ok hE pE h
        | _ => cases h
    · simp only [compF] at h
      exact s_fresh ok (fun sc' X' hK ok' => (s_all n sc' X' ok').1) (fun _ => fun _ _ q => compE_plain q) hF pF hL pL hI (fun _ _ _ q => compI_plain q) h
    · simp only [compL] at h
      split at h
      · rename_i l e1
        cases h
        exact (hF _ _ e1).seq
      · cases e1 : compE G n sc N e with
        | none => rw [e1] at h; cases h
        | some j => rw [e1] at h; cases h; exact seq_ofv (hE _ _ e1).pe
    · simp only [compI] at h
      exact (s_iter ok hE pE hF pF h ht).1
end PX
end
section
/-! PX, soundness 12: statements -/
namespace PX
open PySem PySem.Spec PyProof.Rows L2
section
variable {X : Cx} {lv : Nat} {C : Ctx} {G : GI} {sc : Scope} {N : List PySem.Str} {a b c e o : Expr} {es : List Expr} {ia ib ic : E} {ies : Es} {la lb : L} {pos p : Pos} {x : PySem.Str} {tg : Expr} {t : Tg} {ts : Tgs}
def rAug (K : PySem.W.Frag) (o : BOp) : TIp := fun x y H Q => ∃ ρ s d e, RS_ K ρ s H ∧ RV K ρ H x d ∧ RV K ρ H y e ∧ AnsD K ρ s H Q (augD o d e s)
theorem aug_inv {K : PySem.W.Frag} {o : BOp} {x y : V} {H : Hp} {Q : VK} (h : rAug K o x y H Q) : ∃ ρ s i j, RS_ K ρ s H ∧ x = .int i ∧ y = .int j ∧ AnsD K ρ s H Q (bin o (.int i) (.int j) s) := by
  obtain ⟨ρ, s, d, e, r, hx, hy, h⟩ := h
  cases d with
  | int i =>
    cases e with
    | int j => cases hx; cases hy; exact ⟨ρ, s, i, j, r, rfl, rfl, h⟩
    | _ => exact h.elim
  | _ => exact h.elim
theorem ip_all {op : Operator} {o : BOp} (h : bop op = some o) : PIp X op (rAug X.K o) := by
  cases op <;> cases h
  · exact OpR.imp iop_add fun x y H Q q => by
      obtain ⟨ρ, s, i, j, r, rfl, rfl, q'⟩ := aug_inv q
      exact ⟨i, j, rfl, rfl, AnsD.same q' r (.int _)⟩
  · exact OpR.imp iop_sub fun x y H Q q => by
      obtain ⟨ρ, s, i, j, r, rfl, rfl, q'⟩ := aug_inv q
      exact ⟨i, j, rfl, rfl, AnsD.same q' r (.int _)⟩
  · exact OpR.imp (opI (C := fun i j => mulOk i j = true) (g := fun i j => i * j) fun _ _ _ _ _ _ _ hc q => imul_int q ((mul_ok hc).elim (fun z => z.ok) (fun z => z.ok))) fun x y H Q q => by
      obtain ⟨ρ, s, i, j, r, rfl, rfl, q'⟩ := aug_inv q
      simp only [bin] at q'
      split at q'
      · rename_i hl
        exact ⟨i, j, rfl, rfl, hl, AnsD.same q' r (.int _)⟩
      · exact q'.elim
  · exact OpR.imp iop_mod fun x y H Q q => by
      obtain ⟨ρ, s, i, j, r, rfl, rfl, q'⟩ := aug_inv q
      simp only [bin] at q'
      split at q'
      · rename_i hl
        exact ⟨i, j, rfl, rfl, hl, AnsD.same q' r (.int _)⟩
      · exact q'.elim
  · exact OpR.imp iop_shr fun x y H Q q => by
      obtain ⟨ρ, s, i, j, r, rfl, rfl, q'⟩ := aug_inv q
      simp only [bin] at q'
      split at q'
      · rename_i hl
        exact ⟨i, j, rfl, rfl, hl, AnsD.same q' r (.int _)⟩
      · exact q'.elim
  · exact OpR.imp (opI (C := fun i j => 0 < j ∧ j < wide) (g := fun i j => i / j) fun i j _ _ _ _ _ hc q => by
      have h1 : (0 : Int) < j := hc.1
      exact ifloordiv_int (by omega) (by rw [Int.fdiv_eq_ediv_of_nonneg i (by omega)]; exact q) (.inl (PyProof.noPylong_of_log2 (wide_div (i := i) h1 (wide_lt_pow (Int.lt_trans (by unfold wide; decide) h1) hc.2) (by decide) (by decide)).2))) fun x y H Q q => by
      obtain ⟨ρ, s, i, j, r, rfl, rfl, q'⟩ := aug_inv q
      simp only [bin] at q'
      split at q'
      · rename_i hl
        exact ⟨i, j, rfl, rfl, hl, AnsD.same q' r (.int _)⟩
      · exact q'.elim
theorem asg_nm {K : PySem.W.Frag} {D : Ends} {σ : L2.St} {H : Hp} {i : Nat} (q : tS K C (.asg (.nm i) ia) D σ H) : tE K C ia σ H fun x H1 => gName i x σ H1 D.nx := by
  obtain ⟨ρ, s, η, r, en, q⟩ := q
  refine tE.stepS r en q fun x d s1 ρ1 H1 _ r1 en1 rv1 q1 => ?_
  exact q1 _ ρ1 H1 (Ext.refl r1) (en1.set rv1)
theorem st_aug {op : Operator} {o : BOp} {i : Nat} {p2 : Pos} (ho : bop op = some o) (hN : X.N.Nodup) (hi : X.N[i]? = some x) (hx : Loc X.env.scope x) (hf : X.fn x = true) (he : PE X e (tE X.K C ia)) : PS X (.AugAssign (.Name x p2) op e pos) (tS X.K C (.aug i o ia)) :=
  PS.imp (ps_aug hN hi hx he (ip_all ho) (.inl hf)) fun D σ H q => by
    obtain ⟨ρ, s, η, r, en, q⟩ := q
    simp only [evS_aug] at q
    cases e1 : getV i η with
    | none => rw [e1] at q; exact q.elim
    | some d =>
      rw [e1, sopt_some] at q
      obtain ⟨v, h1, h2⟩ := en.2 i d e1
      refine ⟨v, h1, tE.stepS r en q fun y e s1 ρ1 H1 x1 r1 en1 rv1 q1 => ?_⟩
      refine ⟨ρ1, s1, d, e, r1, x1.rv r h2, rv1, ?_⟩
      cases e2 : augD o d e s1 with
      | ok z s2 =>
        rw [e2, run_ok] at q1
        intro u ρ2 H2 x2 ru
        exact q1 _ ρ2 H2 x2 ((en1.mono x2 r1).set ru)
      | exn _ _ => rw [e2] at q1; exact q1.elim
      | bad => rw [e2] at q1; exact q1.elim
theorem notSw {st : Nat} (hk : X.env.scope.kind = .function) (hs : X.env.scope = sc) (h : swC sc tg e = false) (hp : plainE e = true) : swapsWithSole [tg] e st X.env = pure false := by
  cases e with
  | ListComp elt gs s p =>
    cases tg with
    | Name y py =>
      simp only [swC] at h
      show (pure _ : Sem Bool) = pure false
      congr 1
      have hb : (X.env.blockKind == .function) = true := by unfold Env.blockKind; rw [hk]; rfl
      rw [hb, Bool.true_and]
      show (X.env.scope.names.lookup y == some .local && _ && _) = false
      rw [hs]
      cases e1 : sc.names.lookup y with
      | none => rfl
      | some k =>
        rw [e1] at h
        cases k <;> first | rfl | exact h
    | _ => rfl
  | _ => first | rfl | (simp [plainE] at hp)
/-- statements, by fuel -/
theorem s_stms (ok : XOk X lv C G sc N) (fnT : ∀ x, X.fn x = true) (hk : sc.kind = .function) (d : Nat) : ∀ n : Nat, (∀ s i, compS G d n sc N s = some i → PS X s (tS X.K C i)) ∧ (∀ b i, compB G d n sc N b = some i → PSs X b (tB X.K C i))
  | 0 => ⟨fun s i h => by simp [compS] at h, fun b i h => by simp [compB] at h⟩
  | n + 1 => by
    obtain ⟨iS, iB⟩ := s_stms ok fnT hk d n
    obtain ⟨hE, hF, hL, hI⟩ := s_all d sc X ok
    have pE : ∀ e i, compE G d sc N e = some i → plainE e = true := fun _ _ h => compE_plain h
    have nd : X.N.Nodup := by rw [ok.names]; exact ok.nd
    have hk' : X.env.scope.kind = .function := by rw [ok.scope]; exact hk
    have hok : ∀ x, isLoc sc x = true → Loc X.env.scope x ∧ (X.fn x = true ∨ X.env.scope.names.lookup x = some .local) := fun x hx => ⟨by rw [ok.scope]; exact isLoc_loc hx, .inl (fnT x)⟩
    have hT : ∀ {e : Expr} {t : Tg}, tgOf (isLoc sc) N d e = some t → PG X e (tG X.K t) := fun h => (s_tg ok.names ok.nd ok.calm hok d).1 h
    refine ⟨fun st i h => ?_, fun b i h => ?_⟩
    · unfold compS at h
      split at h
      · cases h; exact st_pass
      · cases h; exact st_brk
      · cases h; exact st_cnt
      · rename_i e pos
        split at h
        · cases h
        · rename_i hn
          cases e1 : compE G d sc N e with
          | none => rw [e1] at h; cases h
          | some j =>
            rw [e1] at h; cases h
            refine st_expr (hE _ _ e1).pe ?_
            have hp := pE _ _ e1
            cases e <;> first | rfl | (simp [plainE] at hp; done) | skip
            exact absurd rfl (hn _ _ _ _)
      · rename_i e pos
        cases e1 : compE G d sc N e with
        | none => rw [e1] at h; cases h
        | some j => rw [e1] at h; cases h; exact st_ret (hE _ _ e1).pe
      · cases h; exact st_retN
      · rename_i o i p2 e pos
        split at h
        · rename_i x y z e1 e2 e3
          split at h
          · cases h
          · cases h
            have hp := pE _ _ e3
            refine st_setIx (hE _ _ e1).pe (hE _ _ e2).pe (hE _ _ e3).pe ?_ ?_ (pg_sub (hE _ _ e2).pe (hE _ _ e3).pe set_list ?_)
            · cases e <;> rfl
            · rfl
            · intro v
              cases i <;> first | rfl | (simp [plainE] at hp)
        · cases h
      · rename_i tg e pos _
        split at h
        · cases h
        · rename_i ht
          split at h
          · rename_i t j e1 e2
            cases h
            have hp := pE _ _ e2
            have hd := tg_head (X := X) e1 []
            have hw : swappedStores [tg] e X.env = pure none := by
              cases tg with
              | Name y py => rfl
              | Tuple us k p =>
                cases e <;> first | rfl | (simp [isTupE] at ht)
              | _ => exact absurd e1 (by cases d <;> simp [tgOf])
            cases hs : swC sc tg e with
            | false => exact st_asg (hE _ _ e2).pe (hT e1) (notSw hk' ok.scope hs hp) hw (by rw [hd]; rfl)
            | true =>
              cases tg with
              | Name y py =>
                cases e with
                | ListComp elt gs scope lp =>
                  simp only [swC, Bool.and_eq_true, Bool.not_eq_true'] at hs
                  obtain ⟨⟨s1, s2⟩, s3⟩ := hs
                  have s1 : sc.names.lookup y = some .local := by
                    split at s1
                    · assumption
                    · cases s1
                  cases d with
                  | zero => simp [compE] at e2
                  | succ m =>
                    simp only [compE] at e2
                    cases e3 : compF G m sc N (.ListComp elt gs scope lp) with
                    | none => rw [e3] at e2; cases e2
                    | some y' =>
                      rw [e3] at e2; cases e2
                      cases m with
                      | zero => simp [compF] at e3
                      | succ m' =>
                        have e3' := e3
                        simp only [compF] at e3
                        obtain ⟨tg2, iter, ifs, t2, ii, ix, oc, rfl, f1, f2, f3, hb, hs2, hoc, rfl⟩ := lc_inv e3
                        obtain ⟨hE', hF', hL', hI'⟩ := s_all (lv := lv) (C := C) (G := G) (N := N) m' sc X ok
                        obtain ⟨k1, k2, k3, k4, k5, k6⟩ := s_lc ok (fun sc' X' hK ok' => (s_all m' sc' X' ok').1) hI' (fun _ _ _ q => compI_plain q) f1 f2 f3 hb hoc
                        simp only [tgOf] at e1
                        split at e1
                        · rename_i hy
                          cases e4 : slot N y with
                          | none => rw [e4] at e1; cases e1
                          | some jj =>
                            rw [e4] at e1; cases e1
                            refine PS.imp (ps_setLc ok.calm nd (by rw [ok.names]; exact slot_ok e4) (by rw [ok.scope]; exact s1) (sw_true hk' (by rw [ok.scope]; exact s1) s2 s3) k1 k2 k3 k4 k5 k6) fun D σ H q => ?_
                            exact lc_imp hs2 (lst_imp comp_nw (asg_nm q))
                        · cases e1
                | _ => simp [swC] at hs
              | _ => simp [swC] at hs
          · cases h
      · rename_i y p2 op e pos
        split at h
        · rename_i hy
          split at h
          · rename_i i' o j e1 e2 e3
            cases h
            exact st_aug e2 nd (by rw [ok.names]; exact slot_ok e1) (hok _ hy).1 (fnT _) (hE _ _ e3).pe
          · cases h
        · cases h
      · rename_i tg iter b pos
        split at h
        · rename_i t j b' e1 e2 e3
          cases h
          exact st_for ok.own ok.calm (hI _ _ _ e2 tg rfl) (hT e1) (iB _ _ e3) (noFold (compI_plain e2))
        · cases h
      · rename_i c b pos
        split at h
        · rename_i j b' e1 e2
          cases h
          exact st_while ok.own (hE _ _ e1).pt (iB _ _ e2)
        · cases h
      · rename_i c a b pos
        split at h
        · rename_i j a' b' e1 e2 e3
          cases h
          exact st_if (hE _ _ e1).pt (iB _ _ e2) (iB _ _ e3)
        · cases h
      · cases h; exact st_never
      · cases h
    · unfold compB at h
      split at h
      · cases h; exact bk_nil
      · rename_i s r
        split at h
        · rename_i i' is e1 e2
          cases h
          exact bk_cons (iS _ _ e1) (iB _ _ e2)
        · cases h
end
end PX
end
section
/-! PX, soundness 13: defs -/
namespace PX
open PySem PySem.Spec PyProof.Rows L2
/-! ### binding -/
theorem fm_congr {α β : Type} {f g : α → Option β} : ∀ {l : List α}, (∀ x ∈ l, f x = g x) → l.filterMap f = l.filterMap g
  | [], _ => rfl
  | x :: r, h => by
    rw [List.filterMap_cons, List.filterMap_cons, h x List.mem_cons_self, fm_congr fun y hy => h y (List.mem_cons_of_mem _ hy)]
theorem lookup_zip : ∀ {names : List PySem.Str} {us : List Value} (nd : names.Nodup) (hl : us.length = names.length), names.filterMap (fun n => ((names.zip us).lookup n).map (n, ·)) = names.zip us ∧ ∀ n ∈ names, ((names.zip us).lookup n).isSome = true
  | [], [], _, _ => ⟨rfl, fun _ h => by cases h⟩
  | [], _ :: _, _, h => by simp at h
  | _ :: _, [], _, h => by simp at h
  | x :: r, u :: us, nd, hl => by
    have nd' := List.nodup_cons.mp nd
    obtain ⟨h1, h2⟩ := lookup_zip (us := us) nd'.2 (by simpa using hl)
    have ne : ∀ n ∈ r, (n == x) = false := fun n hn => beq_eq_false_iff_ne.mpr fun e => nd'.1 (e ▸ hn)
    refine ⟨?_, fun n hn => ?_⟩
    · rw [List.zip_cons_cons, List.filterMap_cons]
      have e0 : ((x, u) :: r.zip us).lookup x = some u := by rw [List.lookup_cons]; simp
      rw [e0]
      show (x, u) :: _ = (x, u) :: _
      congr 1
      refine Eq.trans (fm_congr fun n hn => ?_) h1
      rw [List.lookup_cons, ne n hn]
    · rw [List.zip_cons_cons, List.lookup_cons]
      rcases List.mem_cons.mp hn with rfl | hn
      · simp
      · rw [ne n hn]; exact h2 n hn
theorem bind_plain {x q : PySem.Str} {args : List Arg} {body : List Stmt} {scope : Scope} {kV doc pm cdv ct : Value} {an : Option Addr} (nd : (args.map (·.arg)).Nodup) (us : List Value) (hl : us.length = (args.map (·.arg)).length) :
    bindArgs (PySem.W.fnOf x q ⟨[], args, none, [], [], none, []⟩ body scope .none kV doc pm an cdv ct) ⟨us, []⟩ = pure ((args.map (·.arg)).zip us) := by
  obtain ⟨h1, h2⟩ := lookup_zip nd hl
  have h3 : (args.map (·.arg)).filter (fun n => (((args.map (·.arg)).zip us).lookup n).isNone) = [] := by
    rw [List.filter_eq_nil_iff]
    intro n hn
    have := h2 n hn
    simp [Option.isSome_iff_ne_none.mp this]
  have hN : (notAStandIn Value.none : Sem Unit) = pure () := rfl
  unfold bindArgs PySem.W.fnOf
  simp only [List.map_nil, List.nil_append, List.append_nil, List.forIn_nil, pure_bind, seqItems?, Option.getD_none]
  generalize args.map (·.arg) = names at *
  have e0 : ((none : Option (Array Value)).getD #[]).toList = [] := rfl
  have ht : List.take names.length names = names := List.take_length
  simp only [hN, e0, pure_bind, hl, Option.isNone_none, Bool.and_true, gt_iff_lt, Nat.lt_irrefl, decide_false, List.length_nil, List.drop_nil, Nat.sub_zero, ht, h3, List.isEmpty_nil, Bool.not_true, List.drop_length, List.zip_nil_left, List.forIn_nil, h1,
    Bool.false_eq_true, if_false, List.zip_nil_right]
  try rfl
  done
/-! ### behind a call -/
section
variable {K : PySem.W.Frag} {ρ ρ' : List Addr} {s s' : S} {H H' : Hp}
mutual
theorem RV.under : ∀ {v : V} {d : D}, RV K ρ H v d → below ρ.length d = true
  | _, _, .non => rfl
  | _, _, .bl _ => rfl
  | _, _, .int _ => rfl
  | _, _, .str _ _ _ => rfl
  | _, _, .tup _ r => by simp only [PX.below]; exact RVs.unders r
  | _, _, .loc h => by simp only [PX.below, decide_eq_true_eq]; exact (List.getElem?_eq_some_iff.mp h).1
theorem RVs.unders : ∀ {v : List V} {d : List D}, RVs K ρ H v d → belows ρ.length d = true
  | _, _, .nil => rfl
  | _, _, .cons h r => by simp only [PX.belows, RV.under h, RVs.unders r, Bool.and_self]
end
mutual
theorem RV.down (hp : ∀ (n : Nat) (a : Addr), ρ[n]? = some a → ρ'[n]? = some a) : ∀ {v : V} {d : D}, RV K ρ' H v d → PX.below ρ.length d = true → RV K ρ H v d
  | _, _, .non, _ => .non
  | _, _, .bl b, _ => .bl b
  | _, _, .int i, _ => .int i
  | _, _, .str x h1 h2, _ => .str x h1 h2
  | _, _, .tup h r, hb => .tup h (RVs.down hp r (by simpa only [PX.below] using hb))
  | _, _, .loc (n := n) h, hb => by
    simp only [PX.below, decide_eq_true_eq] at hb
    have e := hp n _ (List.getElem?_eq_getElem hb)
    rw [h] at e
    exact .loc (by rw [List.getElem?_eq_getElem hb]; exact e.symm)
theorem RVs.down (hp : ∀ (n : Nat) (a : Addr), ρ[n]? = some a → ρ'[n]? = some a) : ∀ {v : List V} {d : List D}, RVs K ρ' H v d → PX.belows ρ.length d = true → RVs K ρ H v d
  | _, _, .nil, _ => .nil
  | _, _, .cons h r, hb => by
    simp only [PX.belows, Bool.and_eq_true] at hb
    exact .cons (RV.down hp h hb.1) (RVs.down hp r hb.2)
end
theorem RO.down (hp : ∀ (n : Nat) (a : Addr), ρ[n]? = some a → ρ'[n]? = some a) {a : Addr} {o : O} (h : RO K ρ' H a o) (hb : belowO ρ.length o = true) : RO K ρ H a o := by
  cases o with
  | lst xs => obtain ⟨vs, h1, h2⟩ := h; exact ⟨vs, h1, RVs.down hp h2 hb⟩
  | ro xs => obtain ⟨vs, h1, h2⟩ := h; exact ⟨vs, h1, RVs.down hp h2 hb⟩
theorem RO.below {a : Addr} {o : O} (h : RO K ρ H a o) : belowO ρ.length o = true := by
  cases o with
  | lst xs => obtain ⟨vs, h1, h2⟩ := h; exact RVs.unders h2
  | ro xs => obtain ⟨vs, h1, h2⟩ := h; exact RVs.unders h2
/-- new places that nobody sees are dropped -/
theorem Ext.drop (x : Ext K ρ s H ρ' s' H') (r : RS_ K ρ s H) (hb : s'.take s.length = s ∨ (s'.take s.length).all (belowO s.length) = true) :
    Ext K ρ s H ρ (s'.take s.length) H' ∧ (s'.take s.length).length = s.length := by
  have hl : s.length ≤ s'.length := by
    rw [← r.len, ← x.rep.len]
    refine Nat.le_of_not_lt fun h => ?_
    have := x.pre _ _ (List.getElem?_eq_getElem h)
    rw [List.getElem?_eq_none (Nat.le_refl _)] at this
    cases this
  have tl : (s'.take s.length).length = s.length := by rw [List.length_take]; omega
  have get : ∀ {n : Nat} {o : O}, (s'.take s.length)[n]? = some o → s'[n]? = some o := fun {n o} h => by
    rw [List.getElem?_take] at h
    split at h
    · exact h
    · cases h
  have hbo : ∀ {n : Nat} {o : O}, (s'.take s.length)[n]? = some o → belowO ρ.length o = true := fun {n o} h => by
    rw [r.len]
    rcases hb with e | e
    · rw [e] at h
      have hn := (List.getElem?_eq_some_iff.mp h).1
      rw [← r.len] at hn
      rw [← r.len]
      exact (r.at_ n o _ h (List.getElem?_eq_getElem hn)).below
    · exact List.all_eq_true.mp e o (List.mem_of_getElem? h)
  refine ⟨⟨fun _ _ h => h, fun a ⟨n, xs, h1, h2⟩ => x.new a ⟨n, xs, get h1, x.pre _ _ h2⟩, x.frame, x.dom, ⟨by rw [tl]; exact r.len, fun n o a h1 h2 => (x.rep.at_ n o a (get h1) (x.pre _ _ h2)).down x.pre (hbo h1), fun n m xs ys a h1 h2 h3 h4 => x.rep.inj n m xs ys a (get h1) (get h2) (x.pre _ _ h3) (x.pre _ _ h4)⟩⟩, tl⟩
/-- one new list stays -/
theorem Ext.drop1 (x : Ext K ρ s H ρ' s' H') (r : RS_ K ρ s H) (hb : s'.take s.length = s ∨ (s'.take s.length).all (belowO s.length) = true) {k : Nat} {a : Addr} {xs : List D} (h1 : S.mlst s' k = some xs) (h2 : ρ'[k]? = some a) (h3 : belows s.length xs = true) (h4 : s.length ≤ k) :
    Ext K ρ s H (ρ ++ [a]) (s'.take s.length ++ [.lst xs]) H' := by
  obtain ⟨y, tl⟩ := x.drop r hb
  have hk : s'[k]? = some (.lst xs) := by
    unfold S.mlst at h1
    split at h1
    · rename_i e; cases h1; exact e
    · cases h1
  have get : ∀ {n : Nat} {o : O}, (s'.take s.length)[n]? = some o → s'[n]? = some o := fun {n o} h => by
    rw [List.getElem?_take] at h
    split at h
    · exact h
    · cases h
  have pre : ∀ (n : Nat) (b : Addr), ρ[n]? = some b → (ρ ++ [a])[n]? = some b := fun n b h => by
    rw [List.getElem?_append_left (List.getElem?_eq_some_iff.mp h).1]; exact h
  have old : ∀ {n : Nat} {o : O}, (s'.take s.length ++ [O.lst xs])[n]? = some o → (n < s.length ∧ (s'.take s.length)[n]? = some o) ∨ (n = s.length ∧ o = .lst xs) := fun {n o} h => by
    by_cases hn : n < s.length
    · rw [List.getElem?_append_left (by rw [tl]; exact hn)] at h; exact .inl ⟨hn, h⟩
    · rw [List.getElem?_append_right (by rw [tl]; omega), tl] at h
      have : n - s.length = 0 := by
        have := (List.getElem?_eq_some_iff.mp h).1
        simp at this; omega
      rw [this] at h
      simp at h
      exact .inr ⟨by omega, h.symm⟩
  have adr : ∀ {n : Nat} {b : Addr}, (ρ ++ [a])[n]? = some b → n < s.length → ρ[n]? = some b := fun {n b} h hn => by
    rw [List.getElem?_append_left (by rw [r.len]; exact hn)] at h; exact h
  have adrN : ∀ {b : Addr}, (ρ ++ [a])[s.length]? = some b → b = a := fun {b} h => by
    rw [← r.len] at h
    simp at h; exact h.symm
  refine ⟨pre, fun b ⟨n, zs, g1, g2⟩ => ?_, x.frame, x.dom, ⟨by rw [List.length_append, List.length_append, tl, r.len]; rfl, fun n o b g1 g2 => ?_, fun n m us vs b g1 g2 g3 g4 => ?_⟩⟩
  · rcases old g1 with ⟨hn, g⟩ | ⟨rfl, _⟩
    · exact x.new b ⟨n, zs, get g, x.pre _ _ (adr g2 hn)⟩
    · rw [adrN g2]; exact x.new a ⟨k, xs, hk, h2⟩
  · rcases old g1 with ⟨hn, g⟩ | ⟨rfl, rfl⟩
    · have q := y.rep.at_ n o b g (adr g2 hn)
      cases o with
      | lst zs => obtain ⟨ws, q1, q2⟩ := q; exact ⟨ws, q1, RVs.mono pre (fun _ _ h => h) q2⟩
      | ro zs => obtain ⟨ws, q1, q2⟩ := q; exact ⟨ws, q1, RVs.mono pre (fun _ _ h => h) q2⟩
    · rw [adrN g2]
      obtain ⟨ws, q1, q2⟩ := x.rep.at_ k _ a hk h2
      exact ⟨ws, q1, RVs.mono pre (fun _ _ h => h) (RVs.down x.pre q2 (by rw [r.len]; exact h3))⟩
  · rcases old g1 with ⟨hn, f1⟩ | ⟨rfl, _⟩ <;> rcases old g2 with ⟨hm, f2⟩ | ⟨rfl, _⟩
    · exact y.rep.inj n m us vs b f1 f2 (adr g3 hn) (adr g4 hm)
    · have e := adrN g4
      subst e
      have := x.rep.inj n k us xs b (get f1) hk (x.pre _ _ (adr g3 hn)) h2
      omega
    · have e := adrN g3
      subst e
      have := x.rep.inj m k vs xs b (get f2) hk (x.pre _ _ (adr g4 hm)) h2
      omega
    · rfl
theorem norm_ok {Q : VK} {v : V} {d : D} (h : AnsD K ρ s H Q (norm s d s')) (r : RS_ K ρ s H) (x : Ext K ρ s H ρ' s' H') (rv : RV K ρ' H' v d) : Q v H' := by
  unfold norm at h
  simp only at h
  split at h
  · rename_i hb
    obtain ⟨y, tl⟩ := x.drop r hb
    split at h
    · rename_i hd
      exact h v ρ H' y (RV.down x.pre rv (by rw [r.len]; exact hd))
    · split at h
      · rename_i k
        obtain ⟨a, rfl, ha⟩ := rv.loc_inv
        split at h
        · rename_i xs e
          split at h
          · rename_i hc
            refine h _ (ρ ++ [a]) H' (x.drop1 r hb e ha hc.1 hc.2.1) (.loc ?_)
            rw [← r.len]; simp
          · exact h _ ρ' H' x rv
        · exact h _ ρ' H' x rv
      · exact h v ρ' H' x rv
  · exact h v ρ' H' x rv
theorem out_ok {Q : VK} {D : Ends} {z : RS} (h : AnsD K ρ s H Q (RS.out s z)) (r : RS_ K ρ s H) (hn : ∀ σ' H', Q .non H' → D.nx σ' H') (hr : ∀ v H', Q v H' → D.rt v H') : AnsS K ρ s H D z := by
  cases z with
  | nxt η s' => exact fun σ' ρ' H' x en => hn σ' H' (norm_ok h r x .non)
  | ret d s' => exact fun v ρ' H' x rv => hr v H' (norm_ok h r x rv)
  | exn _ _ _ => exact h.elim
  | brk _ _ => exact h.elim
  | cnt _ _ => exact h.elim
  | bad => exact h.elim
end
/-! ### a def of the text -/
/-- what the check says of one def -/
structure DefOk (G : GI) (Pr : Prg) (K : PySem.W.Frag) (mg : PySem.Str → Option Value) (f : PySem.Str) (n : Nat) where
  fn : Fn
  N : List PySem.Str
  d : Nat
  as : List Arg
  body : List Stmt
  sc : Scope
  fd : FuncData
  at_ : Pr.fn f = some fn
  comp : compB G d 200 sc N body = some fn.body
  scope : scopeC N (as.map (·.arg)) sc = true
  np : fn.np = as.length
  nv : fn.nv = N.length
  ar : n = as.length
  fun_ : FunD K f f ⟨[], as, none, [], [], none, []⟩ body sc [] [] (He.ga K f) fd
  glo : mg f = some (.ref (He.ga K f))
theorem scopeC_ok {N ps : List PySem.Str} {sc : Scope} (h : scopeC N ps sc = true) : FnScope N ps sc := by
  unfold scopeC at h
  simp only [Bool.and_eq_true, Bool.not_eq_true', decide_eq_true_eq, List.all_eq_true] at h
  obtain ⟨⟨⟨⟨⟨⟨h1, h2⟩, h3⟩, h4⟩, h5⟩, h6⟩, h7⟩ := h
  refine ⟨?_, h2, h3, h4, h5, fun x hx => isLoc_loc (h6 x hx), fun y hy e => ?_⟩
  · split at h1
    · assumption
    · cases h1
  · have := h7 y hy
    rw [e] at this
    simp at this
def FnsOk (P : Program) (w : World) (K : PySem.W.Frag) (mg : PySem.Str → Option Value) (base : Heap) (G : GI) (Pr : Prg) (W : Nat) (k : Nat) : Prop :=
  ∀ f n, G.fns.lookup f = some n → ∃ fa fd ps, mg f = some (.ref fa) ∧ PySem.W.keepIn K (.ref fa) = true ∧ FnOk P w K mg base CX0 k fa fd ps (spF K n (callN Pr W k f)) ∧ Binds K fd ps []
theorem none_env : ∀ (m i : Nat), getV i (List.replicate m (none : Option D)) = none
  | 0, 0 => rfl
  | 0, _ + 1 => rfl
  | _ + 1, 0 => rfl
  | m + 1, i + 1 => none_env m i
theorem start_key {K : PySem.W.Frag} {ρ : List Addr} {H : Hp} {m m' : Nat} {d : D} : ∀ {us : List V} {l : List D} {i : Nat}, RVs K ρ H us l → getV i (l.map some ++ List.replicate m none) = some d → ∃ v, (us.map some ++ List.replicate m' none)[i]? = some (some v) ∧ RV K ρ H v d
  | _, _, i, .nil, e => by
    simp only [List.map_nil, List.nil_append, none_env] at e
    cases e
  | _, _, 0, .cons h t, e => by simp at e; subst e; exact ⟨_, rfl, h⟩
  | _, _, i + 1, .cons h t, e => by
    obtain ⟨v, a, b⟩ := start_key (i := i) t (by simpa using e)
    exact ⟨v, by simpa using a, b⟩
theorem start_env {K : PySem.W.Frag} {ρ : List Addr} {H : Hp} {N : List PySem.Str} {fn : Fn} {vs : List V} {ds : List D} (rv : RVs K ρ H vs ds) (h1 : fn.np = vs.length) (h2 : fn.nv = N.length) : REnv K ρ H (L2.start N vs) (PX.start fn ds) := by
  unfold L2.start PX.start
  exact ⟨by simp [rv.length, h1, h2], fun i d e => start_key rv e⟩
theorem fn_step {P : Program} {w : World} {K : PySem.W.Frag} {mg : PySem.Str → Option Value} {base : Heap} {G : GI} {Pr : Prg} {W k : Nat} {f : PySem.Str} {n : Nat} (q : DefOk G Pr K mg f n) (ih : FnsOk P w K mg base G Pr W k)
    (hg : ∀ x, G.glo.contains x = true → ∃ v u d, Pr.gl x = some d ∧ mg x = some u ∧ RelV v u ∧ (∀ ρ H, RV K ρ H v d) ∧ ∀ ds, d = .tup ds → ∀ H, tyV K "tuple" v H) (hb : ∀ b ∈ bltNames, mg b = none) : FnOk P w K mg base CX0 (k + 1) (He.ga K f) q.fd (q.as.map (·.arg)) (spF K n (callN Pr W (k + 1) f)) := by
  have S := scopeC_ok q.scope
  refine q.fun_.ok S (fun vs H Q E z => z.1.trans (q.ar.trans (List.length_map ..).symm)) (fun cdv A outer s H vs Q E hr z => ?_)
  refine ⟨tB K ⟨callN Pr W k, Pr.gl, W⟩ q.fn.body, PSs.nox ?_, ?_⟩
  · have ok : XOk (Cx.nox (cxOf CX0 P w K mg base q.N f q.sc (He.ga K f) cdv A outer s H E)) k ⟨callN Pr W k, Pr.gl, W⟩ G q.sc q.N := ⟨rfl, rfl, S.nd, rfl, PassesOwn.never, hr, ih, hg, hb⟩
    exact (s_stms ok (fun _ => rfl) S.kind q.d 200).2 _ _ q.comp
  · obtain ⟨hv, ρ, s0, ds, r, rv, z⟩ := z
    have z : AnsD K ρ s0 H Q (match Pr.fn f with
      | none => .bad
      | some fn => if ds.length = fn.np then RS.out s0 (evB ⟨callN Pr W k, Pr.gl, W⟩ fn.body (PX.start fn ds) s0) else .bad) := z
    rw [q.at_] at z
    dsimp only at z
    rw [if_pos (by rw [← rv.length, hv, q.np]; exact q.ar)] at z
    exact ⟨ρ, s0, PX.start q.fn ds, r, start_env rv (by rw [q.np, hv]; exact q.ar.symm) q.nv, out_ok z r (fun _ _ z => z) fun _ _ z => z⟩
theorem DefOk.nd {G : GI} {Pr : Prg} {K : PySem.W.Frag} {mg : PySem.Str → Option Value} {f : PySem.Str} {n : Nat} (q : DefOk G Pr K mg f n) : (q.as.map (·.arg)).Nodup := by
  have S := scopeC_ok q.scope
  rw [← S.pre]; exact S.nd.sublist (List.take_sublist _ _)
theorem DefOk.binds {G : GI} {Pr : Prg} {K : PySem.W.Frag} {mg : PySem.Str → Option Value} {f : PySem.Str} {n : Nat} (q : DefOk G Pr K mg f n) : Binds K q.fd (q.as.map (·.arg)) [] :=
  q.fun_.bindsN fun _ _ _ _ _ _ us hl => bind_plain q.nd us hl
theorem fns_ok {P : Program} {w : World} {K : PySem.W.Frag} {mg : PySem.Str → Option Value} {base : Heap} {G : GI} {Pr : Prg} {W : Nat} (hd : ∀ f n, G.fns.lookup f = some n → Nonempty (DefOk G Pr K mg f n))
    (hg : ∀ x, G.glo.contains x = true → ∃ v u d, Pr.gl x = some d ∧ mg x = some u ∧ RelV v u ∧ (∀ ρ H, RV K ρ H v d) ∧ ∀ ds, d = .tup ds → ∀ H, tyV K "tuple" v H) (hb : ∀ b ∈ bltNames, mg b = none) : ∀ k : Nat, FnsOk P w K mg base G Pr W k
  | 0 => fun f n h => by
    obtain ⟨q⟩ := hd f n h
    refine ⟨_, q.fd, q.as.map (·.arg), q.glo, q.fun_.kp, ⟨fun vs H Q E z => ?_, fun A outer s H args us vs Q E _ _ _ _ z => ?_⟩, q.binds⟩
    · obtain ⟨_, ρ, s, ds, _, _, z⟩ := z; exact z.elim
    · obtain ⟨_, ρ, s, ds, _, _, z⟩ := z; exact z.elim
  | k + 1 => fun f n h => by
    obtain ⟨q⟩ := hd f n h
    exact ⟨_, q.fd, q.as.map (·.arg), q.glo, q.fun_.kp, fn_step q (fns_ok hd hg hb k) hg hb, q.binds⟩
end PX
end
section
/-! PX, soundness 14: the head and the end -/
namespace PX
open PySem PySem.Spec PyProof.Rows L2
/-! ### the module's constants -/
mutual
def relG (K : PySem.W.Frag) : Nat → Value → D → Bool
  | 0, _, _ => false
  | n + 1, u, d => match u, d with
    | .none, .non => true
    | .bool b, .bl c => b == c
    | .int i _, .int j => decide (i = j)
    | .str x _, .str y => decide (x.cps.toList = y) && (PyData.strOk x && decide (x.length ≤ 10000))
    | .ref a, .tup ds => (match K.lookup a with
      | some ⟨.type c, none, .seq its _, _⟩ => decide (c = "tuple") && (decide (its.size ≤ 10000) && relGs K n its.toList ds)
      | _ => false)
    | _, _ => false
def relGs (K : PySem.W.Frag) : Nat → List Value → List D → Bool
  | 0, _, _ => false
  | n + 1, us, ds => match us, ds with
    | [], [] => true
    | u :: us, d :: ds => relG K n u d && relGs K n us ds
    | _, _ => false
end
theorem relG_all (K : PySem.W.Frag) : ∀ n : Nat, (∀ u d, relG K n u d = true → ∃ v, RelV v u ∧ (∀ ρ H, RV K ρ H v d) ∧ ∀ ds, d = .tup ds → ∀ H, tyV K "tuple" v H) ∧ (∀ us ds, relGs K n us ds = true → ∃ vs, Vals vs us ∧ ∀ ρ H, RVs K ρ H vs ds)
  | 0 => ⟨fun _ _ h => by simp [relG] at h, fun _ _ h => by simp [relGs] at h⟩
  | n + 1 => by
    obtain ⟨h1, h2⟩ := relG_all K n
    refine ⟨fun u d h => ?_, fun us ds h => ?_⟩
    · unfold relG at h
      split at h
      · exact ⟨.non, rfl, fun _ _ => .non, fun _ e => nomatch e⟩
      · rename_i b c
        obtain rfl := eq_of_beq h
        exact ⟨.bl b, rfl, fun _ _ => .bl b, fun _ e => nomatch e⟩
      · rename_i i t j
        obtain rfl := of_decide_eq_true h
        exact ⟨.int i, ⟨t, rfl⟩, fun _ _ => .int i, fun _ e => nomatch e⟩
      · rename_i x t y
        simp only [Bool.and_eq_true, decide_eq_true_eq] at h
        obtain ⟨rfl, h3, h4⟩ := h
        exact ⟨.str x, ⟨t, rfl⟩, fun _ _ => .str x h3 (Nat.le_trans h4 (by rw [sizeLine_eq]; decide)), fun _ e => nomatch e⟩
      · rename_i a ds
        split at h
        · rename_i c its m sl e
          simp only [Bool.and_eq_true, decide_eq_true_eq] at h
          obtain ⟨rfl, h3, h4⟩ := h
          obtain ⟨vs, h5, h6⟩ := h2 _ _ h4
          exact ⟨.ref a, rfl, fun ρ H => .tup (.inr ⟨_, its, m, e, rfl, rfl, Nat.le_trans h3 (by rw [sizeLine_eq]; decide), h5⟩) (h6 ρ H), fun _ _ H => .inr (.inl ⟨rfl, _, e, rfl, rfl⟩)⟩
        · cases h
      · cases h
    · unfold relGs at h
      split at h
      · exact ⟨[], .nil, fun _ _ => .nil⟩
      · rename_i u us d ds
        rw [Bool.and_eq_true] at h
        obtain ⟨v, h3, h4, _⟩ := h1 _ _ h.1
        obtain ⟨vs, h5, h6⟩ := h2 _ _ h.2
        exact ⟨v :: vs, .cons h3 h5, fun ρ H => .cons (h4 ρ H) (h6 ρ H)⟩
      · cases h
def gloB (K : PySem.W.Frag) (p : PySem.Str × D) : Bool := match PySem.W.nsIn K mainGlobals p.1 with
  | some (some u) => relG K 60 u p.2
  | _ => false
theorem gloB_ok {K : PySem.W.Frag} {h : Heap} {mg : PySem.Str → Option Value} (X : K.In h) (G : h.Ns mainGlobals mg) {p : PySem.Str × D} (c : gloB K p = true) : ∃ v u, mg p.1 = some u ∧ RelV v u ∧ (∀ ρ H, RV K ρ H v p.2) ∧ ∀ ds, p.2 = .tup ds → ∀ H, tyV K "tuple" v H := by
  unfold gloB at c
  split at c
  · rename_i u e
    obtain ⟨v, h1, h2⟩ := (relG_all K 60).1 _ _ c
    exact ⟨v, u, PySem.W.mg_of X G e, h1, h2⟩
  · cases c
/-! ### the hook -/
def Prg.gi (P : Prg) : GI := ⟨P.fns.map fun p => (p.1, p.2.np), P.glo.map (·.1)⟩
def faOf (P : Prg) : List He.Fa := (P.fns.map fun p => He.Fa.glo p.1) ++ bltNames.map He.Fa.free
/-- a def of this name -/
def defIn (x : PySem.Str) : Stmt → Option He.DefD
  | .FunctionDef n a b _ _ _ sc _ _ _ => if n == x then some ⟨(n, none), n, n, a, b, sc, [], []⟩ else none
  | _ => none
def fnsOf (P : Prg) (body : List Stmt) : List He.DefD := P.fns.filterMap fun p => body.findSome? (defIn p.1)
def obsP (fa : List He.Fa) (fn : List He.DefD) (gs : List (PySem.Str × D)) (K : PySem.W.Frag) : He.AlD × Bool := (He.obsD fa fn K, gs.all (gloB K))
def SaysP (fa : List He.Fa) (fn : List He.DefD) (gs : List (PySem.Str × D)) (K : PySem.W.Frag) : Prop := obsP fa fn gs K = (He.valD fn, true)
def obsPG (n : Nat) (fa : List He.Fa) (fn : List He.DefD) (gs : List (PySem.Str × D)) (g : Addr → Option Obj) : He.AlD × Bool := obsP fa fn gs (He.frG g (He.asD g n))
def hookP (n : Nat) (fa : List He.Fa) (fn : List He.DefD) (gs : List (PySem.Str × D)) : PySem.W.Hook where
  α := He.AlD × Bool
  obs := fun s => obsPG n fa fn gs s.heap.get?
  val := fun _ => (He.valD fn, true)
  says := fun _ h => ∃ K : PySem.W.Frag, K.In h ∧ SaysP fa fn gs K
  of := fun _ _ e => ⟨_, He.frG_in, e⟩
  keeps := fun _ _ _ ⟨K, hK, c⟩ k => ⟨K, PySem.W.Frag.In.keeps hK k, c⟩
theorem obsPG_eq {n : Nat} {fa : List He.Fa} {fn : List He.DefD} {gs : List (PySem.Str × D)} {g : Addr → Option Obj} {s : Shared} (h : ∀ a, g a = s.heap.get? a) : obsPG n fa fn gs g = (hookP n fa fn gs).obs s := by
  have e : g = s.heap.get? := funext h
  rw [e] <;> rfl
/-! ### what the check of the defs says -/
def compR (G : GI) (dep : Nat) (N : List PySem.Str) (d : He.DefD) : Option (PySem.Str × Fn) := match d.params with
  | ⟨[], as, none, [], [], none, []⟩ => if scopeC N (as.map (·.arg)) d.scope then (match compB G dep 200 d.scope N d.body with
    | some b => some (d.name, ⟨as.length, N.length, b⟩)
    | none => none) else none
  | _ => none
theorem lookup_mem {α : Type} : ∀ {l : List (PySem.Str × α)} {x : PySem.Str} {a : α}, l.lookup x = some a → ∃ i : Nat, l[i]? = some (x, a)
  | [], _, _, h => by simp at h
  | (y, b) :: r, x, a, h => by
    rw [List.lookup_cons] at h
    cases e : x == y with
    | true => rw [e] at h; obtain rfl := eq_of_beq e; cases h; exact ⟨0, rfl⟩
    | false => rw [e] at h; obtain ⟨i, q⟩ := lookup_mem h; exact ⟨i + 1, q⟩
theorem lookup_map {α β : Type} {f : α → β} : ∀ {l : List (PySem.Str × α)} {x : PySem.Str} {b : β}, (l.map fun p => (p.1, f p.2)).lookup x = some b → ∃ a, l.lookup x = some a ∧ f a = b
  | [], _, _, h => by simp at h
  | (y, c) :: r, x, b, h => by
    rw [List.map_cons, List.lookup_cons] at h
    rw [List.lookup_cons]
    cases e : x == y with
    | true => rw [e] at h; cases h; exact ⟨c, rfl, rfl⟩
    | false => rw [e] at h; exact lookup_map h
theorem zipWith_get {α β γ : Type} {f : α → β → γ} : ∀ {as : List α} {bs : List β} {i : Nat} {c : γ}, (List.zipWith f as bs)[i]? = some c → ∃ a b, as[i]? = some a ∧ bs[i]? = some b ∧ f a b = c
  | [], _, _, _, h => by simp at h
  | _ :: _, [], _, _, h => by simp at h
  | a :: as, b :: bs, 0, c, h => by simp at h; exact ⟨a, b, rfl, rfl, h⟩
  | a :: as, b :: bs, i + 1, c, h => by
    obtain ⟨x, y, h1, h2, h3⟩ := zipWith_get (as := as) (bs := bs) (i := i) (by simpa using h)
    exact ⟨x, y, by simpa using h1, by simpa using h2, h3⟩
/-- all that is checked of a text -/
structure Chk (P : Prg) (body : List Stmt) (dep : Nat) (Ns : List (List PySem.Str)) : Prop where
  comp : List.zipWith (fun d N => compR P.gi dep N d) (fnsOf P body) Ns = P.fns.map some
theorem defs_ok {P : Prg} {body : List Stmt} {dep : Nat} {Ns : List (List PySem.Str)} (c : Chk P body dep Ns) {K : PySem.W.Frag} {h : Heap} {mg : PySem.Str → Option Value} (X : K.In h) (G : h.Ns mainGlobals mg) (s : SaysP (faOf P) (fnsOf P body) P.glo K) :
    (∀ f n, P.gi.fns.lookup f = some n → ∃ q : DefOk P.gi P K mg f n, ⟨[], q.as, none, [], [], none, []⟩ ∈ ((fnsOf P body).filter fun d => d.name == f).map (·.params)) ∧ (∀ x, P.gi.glo.contains x = true → ∃ v u d, P.gl x = some d ∧ mg x = some u ∧ RelV v u ∧ (∀ ρ H, RV K ρ H v d) ∧ ∀ ds, d = .tup ds → ∀ H, tyV K "tuple" v H) ∧ (∀ b ∈ bltNames, mg b = none) := by
  have s0 : (He.obsD (faOf P) (fnsOf P body) K, P.glo.all (gloB K)) = (He.valD (fnsOf P body), true) := s
  have s1 : He.SaysD (faOf P) (fnsOf P body) K := congrArg Prod.fst s0
  have s2 : P.glo.all (gloB K) = true := congrArg Prod.snd s0
  clear s0
  refine ⟨fun f n e => ?_, fun x e => ?_, fun b hb => ?_⟩
  · obtain ⟨fn, e1, rfl⟩ := lookup_map (f := fun q : Fn => q.np) e
    obtain ⟨i, e2⟩ := lookup_mem e1
    have e3 : (P.fns.map some)[i]? = some (some (f, fn)) := by rw [List.getElem?_map, e2]; rfl
    rw [← c.comp] at e3
    obtain ⟨d, N, e4, e5, e6⟩ := zipWith_get e3
    obtain ⟨fd, F⟩ := s1.def_ i e4
    have gl : (He.Fa.glo f).ok K = true := by
      refine s1.fact i ?_
      unfold faOf
      rw [List.getElem?_append_left (by rw [List.length_map]; exact (List.getElem?_eq_some_iff.mp e2).1), List.getElem?_map, e2]
      rfl
    have em : d ∈ fnsOf P body := List.mem_of_getElem? e4
    unfold fnsOf at em
    obtain ⟨p, hp, e7⟩ := List.mem_filterMap.mp em
    obtain ⟨st, hst, e8⟩ := List.exists_of_findSome?_eq_some e7
    cases st <;> first | (simp [defIn] at e8; done) | skip
    rename_i nm a b dl rt tc sc tp x1 x2
    simp only [defIn] at e8
    split at e8
    · cases e8
      simp only [compR] at e6
      split at e6
      · rename_i as
        split at e6
        · rename_i hs
          split at e6
          · rename_i b' e9
            cases e6
            exact ⟨⟨_, N, dep, as, b, sc, fd, e1, e9, hs, rfl, rfl, rfl, F, He.glo_ok X G gl⟩, List.mem_map.mpr ⟨_, List.mem_filter.mpr ⟨List.mem_of_getElem? e4, by simp⟩, rfl⟩⟩
          · cases e6
        · cases e6
      · cases e6
    · cases e8
  · have e : (P.glo.map (·.1)).contains x = true := e
    have hx : x ∈ P.glo.map (·.1) := by simpa using e
    have : ∃ d, P.glo.lookup x = some d := by
      clear s s1 s2 c
      generalize P.glo = l at hx
      induction l with
      | nil => simp at hx
      | cons p r ih =>
        rw [List.lookup_cons]
        cases e : x == p.1 with
        | true => exact ⟨_, rfl⟩
        | false =>
          rw [List.map_cons] at hx
          rcases List.mem_cons.mp hx with h | h
          · rw [h] at e; simp at e
          · exact ih h
    obtain ⟨d, e1⟩ := this
    obtain ⟨i, e2⟩ := lookup_mem e1
    obtain ⟨v, u, h1, h2, h3⟩ := gloB_ok X G (List.all_eq_true.mp s2 _ (List.mem_of_getElem? e2))
    exact ⟨v, u, d, e1, h1, h2, h3⟩
  · obtain ⟨i, hi⟩ := List.getElem?_of_mem hb
    refine He.free_ok X G (s1.fact (P.fns.length + i) ?_)
    unfold faOf
    rw [List.getElem?_append_right (by rw [List.length_map]; omega), List.length_map, Nat.add_sub_cancel_left, List.getElem?_map, hi]
    rfl
/-! ### the end -/
theorem rvs_intsV {K : PySem.W.Frag} {ρ : List Addr} {H : Hp} : ∀ ns : List Int, RVs K ρ H (ns.map V.int) (ns.map D.int)
  | [] => .nil
  | n :: r => .cons (.int n) (rvs_intsV r)
theorem finish {l : PySem.W.OpenLaw} {n k W : Nat} {P : Prg} {body : List Stmt} {dep : Nat} {Ns : List (List PySem.Str)} (c : Chk P body dep Ns) {lw x : PySem.Str}
    (hx : ((fnsOf P body).filter fun d => d.name == lw).all (fun d => decide (d.params.args.map (·.arg) = [x])) = true) (hl : P.gi.fns.lookup lw = some 1)
    (law : ∀ ns : List Int, ns.length ≤ n → ∃ s', callN P W (k + 1) lw [.loc 0] [.ro (ns.map .int)] = .ok (.bl true) s')
    (w : World) (mg : PySem.Str → Option Value) (fa : Addr) (h : Heap) (Y : (hookP 4 (faOf P) (fnsOf P body) P.glo).says w h) (G : h.Ns mainGlobals mg) (hmg : mg lw = some (.ref fa)) :
    ∃ (K : PySem.W.Frag) (fd : FuncData) (sp : Sp), K.In h ∧ (∀ (s : Shared) (u : Value), BindsTo s fd ⟨[u], []⟩ [(x, u)]) ∧
        (∀ (H : Hp) (a : Addr) (ns : List Int), ns.length ≤ n → Only H → SqL K H a (ns.map V.int) → sp [.ref a] H (fun v _ => v = .bl true) fun _ _ _ => False) ∧
        ∀ base : Heap, K.In base → base.Ns mainGlobals mg → FnOk l.prog w K mg base CX0 (k + 1) fa fd [x] sp := by
  obtain ⟨K, X, s⟩ := Y
  obtain ⟨h1, h2, h3⟩ := defs_ok c X G s
  obtain ⟨q, hq⟩ := h1 lw 1 hl
  have h1 : ∀ f n, P.gi.fns.lookup f = some n → Nonempty (DefOk P.gi P K mg f n) := fun f n e => let ⟨q, _⟩ := h1 f n e; ⟨q⟩
  have ea := q.glo
  rw [hmg] at ea
  cases ea
  have ps : q.as.map (·.arg) = [x] := by
    obtain ⟨d, hd, e⟩ := List.mem_map.mp hq
    have := of_decide_eq_true (List.all_eq_true.mp hx d hd)
    rw [e] at this
    exact this
  have S := scopeC_ok q.scope
  refine ⟨K, q.fd, spF K 1 (callN P W (k + 1) lw), X, fun s u => ?_, fun H a ns hn hO hS => ?_, fun base hB hN => ?_⟩
  · have b := q.fun_.bindsA (ps := q.as.map (·.arg)) (fun _ _ _ _ _ _ us hl => bind_plain q.nd us hl) s [u] (by rw [ps]; rfl)
    rw [ps] at b
    exact b
  · have sr : SqR K H a (ns.map V.int) := by
      rcases hS with (e | ⟨o, e⟩) | e
      · rcases hO a with z | ⟨o, xs, z⟩ <;> rw [e] at z <;> cases z
      · exact .inl ⟨o, e⟩
      · exact .inr e
    refine ⟨rfl, [a], [.ro (ns.map .int)], [.loc 0], ⟨rfl, fun m o b e1 e2 => ?_, fun m m' xs ys b e1 e2 e3 e4 => ?_⟩, .cons (.loc rfl) .nil, ?_⟩
    · cases m with
      | zero => simp at e1 e2; subst e1 e2; exact ⟨_, sr, rvs_intsV ns⟩
      | succ m => simp at e1
    · cases m with
      | zero => simp at e1
      | succ m => simp at e1
    · obtain ⟨s', e⟩ := law ns hn
      rw [e]
      intro v ρ' H' _ rv
      cases rv; rfl
  · have := fn_step (P := l.prog) (w := w) (base := base) (W := W) (k := k) q (fns_ok h1 h2 h3 k) h2 h3
    rw [ps] at this
    exact this
end PX
end
section
/-! PX: the evaluator's values by rewriting -/
namespace PX
section
variable {s : S} {o : O} {n m : Nat} {i j : Int} {b c : Bool} {x y : List Nat} {xs ys ds : List D} {d e : D}
@[simp] theorem okN_non : okN n .non = true := rfl.trans (by cases n <;> rfl)
@[simp] theorem okN_bl : okN n (.bl b) = true := rfl.trans (by cases n <;> rfl)
@[simp] theorem okN_int : okN n (.int i) = true := rfl.trans (by cases n <;> rfl)
@[simp] theorem okN_str : okN n (.str x) = true := rfl.trans (by cases n <;> rfl)
@[simp] theorem okN_tup : okN (n + 1) (.tup xs) = okNs n xs := rfl.trans rfl
@[simp] theorem okN_loc : okN n (.loc m) = false := rfl.trans (by cases n <;> rfl)
@[simp] theorem okNs_nil : okNs n [] = true := rfl.trans rfl
@[simp] theorem okNs_cons : okNs n (d :: ds) = (okN n d && okNs n ds) := rfl.trans rfl
theorem okNs_append : okNs n (xs ++ ys) = (okNs n xs && okNs n ys) := by
  induction xs with
  | nil => rfl
  | cons x r ih => simp only [List.cons_append, okNs_cons, ih, Bool.and_assoc]
theorem okNs_ints : ∀ l : List Int, okNs n (l.map .int) = true
  | [] => rfl
  | i :: r => by simp only [List.map_cons, okNs_cons, okN_int, okNs_ints r, Bool.and_self]
@[simp] theorem ok_eq : ok d = okN 40 d := rfl.trans rfl
@[simp] theorem eqv_non : eqv .non .non = true := rfl.trans rfl
@[simp] theorem eqv_bl : eqv (.bl b) (.bl c) = decide (b = c) := by show (b == c) = _; cases b <;> cases c <;> rfl
@[simp] theorem eqv_int : eqv (.int i) (.int j) = decide (i = j) := by show (i == j) = _; by_cases h : i = j <;> simp [h]
@[simp] theorem eqv_str : eqv (.str x) (.str y) = decide (x = y) := by show (x == y) = _; by_cases h : x = y <;> simp [h]
@[simp] theorem eqv_tup : eqv (.tup xs) (.tup ys) = eqvs xs ys := rfl.trans rfl
@[simp] theorem eqv_int_str : eqv (.int i) (.str y) = false := rfl.trans rfl
@[simp] theorem eqv_str_int : eqv (.str y) (.int i) = false := rfl.trans rfl
@[simp] theorem eqv_int_tup : eqv (.int i) (.tup ys) = false := rfl.trans rfl
@[simp] theorem eqv_tup_int : eqv (.tup ys) (.int i) = false := rfl.trans rfl
@[simp] theorem eqv_str_tup : eqv (.str y) (.tup ys) = false := rfl.trans rfl
@[simp] theorem eqv_tup_str : eqv (.tup ys) (.str y) = false := rfl.trans rfl
@[simp] theorem eqv_non_int : eqv .non (.int i) = false := rfl.trans rfl
@[simp] theorem eqv_int_non : eqv (.int i) .non = false := rfl.trans rfl
@[simp] theorem eqv_non_str : eqv .non (.str y) = false := rfl.trans rfl
@[simp] theorem eqv_str_non : eqv (.str y) .non = false := rfl.trans rfl
@[simp] theorem eqv_non_tup : eqv .non (.tup ys) = false := rfl.trans rfl
@[simp] theorem eqv_tup_non : eqv (.tup ys) .non = false := rfl.trans rfl
@[simp] theorem eqv_non_bl : eqv .non (.bl b) = false := rfl.trans rfl
@[simp] theorem eqv_bl_non : eqv (.bl b) .non = false := rfl.trans rfl
@[simp] theorem eqv_bl_str : eqv (.bl b) (.str y) = false := rfl.trans rfl
@[simp] theorem eqv_str_bl : eqv (.str y) (.bl b) = false := rfl.trans rfl
@[simp] theorem eqv_bl_tup : eqv (.bl b) (.tup ys) = false := rfl.trans rfl
@[simp] theorem eqv_tup_bl : eqv (.tup ys) (.bl b) = false := rfl.trans rfl
@[simp] theorem eqvs_nil : eqvs [] [] = true := rfl.trans rfl
@[simp] theorem eqvs_cons : eqvs (d :: xs) (e :: ys) = (eqv d e && eqvs xs ys) := rfl.trans rfl
@[simp] theorem eqvs_nc : eqvs [] (e :: ys) = false := rfl.trans rfl
@[simp] theorem eqvs_cn : eqvs (e :: ys) [] = false := rfl.trans rfl
@[simp] theorem bind1_nm {η : Env} : bind1 (.nm n) d η = some (setV n (some d) η) := rfl.trans rfl
@[simp] theorem bind1_tp {ts : Tgs} {η : Env} : bind1 (.tp ts) (.tup ds) η = bindAll ts ds η := rfl.trans rfl
@[simp] theorem bindAll_nil {η : Env} : bindAll .nil [] η = some η := rfl.trans rfl
@[simp] theorem bindAll_cons {t : Tg} {r : Tgs} {η : Env} : bindAll (.cons t r) (d :: ds) η = (bind1 t d η).bind fun η => bindAll r ds η := by
  show (match bind1 t d η with | some η => bindAll r ds η | none => none) = _
  cases bind1 t d η <;> rfl
/-! stores -/
@[simp] theorem lst_nil : S.lst [] n = none := rfl.trans rfl
@[simp] theorem lst_lst0 : S.lst (.lst xs :: s) 0 = some xs := rfl.trans rfl
@[simp] theorem lst_ro0 : S.lst (.ro xs :: s) 0 = some xs := rfl.trans rfl
@[simp] theorem lst_succ : S.lst (o :: s) (n + 1) = S.lst s n := rfl.trans rfl
@[simp] theorem mlst_nil : S.mlst [] n = none := rfl.trans rfl
@[simp] theorem mlst_lst0 : S.mlst (.lst xs :: s) 0 = some xs := rfl.trans rfl
@[simp] theorem mlst_ro0 : S.mlst (.ro xs :: s) 0 = none := rfl.trans rfl
@[simp] theorem mlst_succ : S.mlst (o :: s) (n + 1) = S.mlst s n := rfl.trans rfl
@[simp] theorem setS_0 : setS (o :: s) 0 o' = o' :: s := rfl.trans rfl
@[simp] theorem setS_succ : setS (o :: s) (n + 1) o' = o :: setS s n o' := rfl.trans rfl
theorem lst_app {t : S} (h : n < s.length) : S.lst (s ++ t) n = S.lst s n := by unfold S.lst; rw [List.getElem?_append_left h]
theorem mlst_app {t : S} (h : n < s.length) : S.mlst (s ++ t) n = S.mlst s n := by unfold S.mlst; rw [List.getElem?_append_left h]
theorem lst_end {t : S} : S.lst (s ++ t) s.length = S.lst t 0 := by unfold S.lst; rw [List.getElem?_append_right (Nat.le_refl _), Nat.sub_self]
theorem mlst_end {t : S} : S.mlst (s ++ t) s.length = S.mlst t 0 := by unfold S.mlst; rw [List.getElem?_append_right (Nat.le_refl _), Nat.sub_self]
theorem setS_app {t : S} (h : n < s.length) : setS (s ++ t) n o = setS s n o ++ t := by unfold setS; rw [List.set_append_left _ _ h]
theorem setS_end {t : S} : setS (s ++ t) s.length o = s ++ setS t 0 o := by unfold setS; rw [List.set_append_right _ _ (Nat.le_refl _), Nat.sub_self]
theorem mlst_lst (h : S.mlst s n = some xs) : S.lst s n = some xs := by
  unfold S.mlst at h
  split at h
  · rename_i e; cases h; unfold S.lst; rw [e]
  · cases h
theorem lst_at {t : S} {k : Nat} : S.lst (s ++ t) (s.length + k) = S.lst t k := by unfold S.lst; rw [List.getElem?_append_right (by omega), Nat.add_sub_cancel_left]
theorem mlst_at {t : S} {k : Nat} : S.mlst (s ++ t) (s.length + k) = S.mlst t k := by unfold S.mlst; rw [List.getElem?_append_right (by omega), Nat.add_sub_cancel_left]
theorem setS_at {t : S} {k : Nat} : setS (s ++ t) (s.length + k) o = s ++ setS t k o := by unfold setS; rw [List.set_append_right _ _ (by omega), Nat.add_sub_cancel_left]
theorem mlst_set (h : n < s.length) : S.mlst (setS s n (.lst xs)) n = some xs := by unfold S.mlst setS; rw [List.getElem?_set_self h]
theorem mlst_lt (h : S.mlst s n = some xs) : n < s.length := by
  unfold S.mlst at h
  cases e : s[n]? with
  | none => rw [e] at h; cases h
  | some o => exact (List.getElem?_eq_some_iff.mp e).1
@[simp] theorem setS_len : (setS s n o).length = s.length := by unfold setS; rw [List.length_set]
theorem setS_all {p : O → Bool} (h : s.all p = true) (ho : p o = true) : (setS s n o).all p = true := by
  rw [List.all_eq_true] at h ⊢
  intro x hx
  rcases List.mem_or_eq_of_mem_set hx with q | rfl
  · exact h x q
  · exact ho
theorem setS_take {k : Nat} (h : k ≤ n) : (setS s n o).take k = s.take k := by unfold setS; rw [List.take_set_of_le h]
theorem big_eq' : big = 16777216 := rfl.trans rfl
/-! truth -/
@[simp] theorem truth_non : truth s .non = some false := rfl.trans rfl
@[simp] theorem truth_bl : truth s (.bl b) = some b := rfl.trans rfl
@[simp] theorem truth_int : truth s (.int i) = some (decide (i ≠ 0)) := by show some (i != 0) = _; congr 1; by_cases h : i = 0 <;> simp [h]
@[simp] theorem truth_str : truth s (.str x) = some (!x.isEmpty) := rfl.trans rfl
@[simp] theorem truth_tup : truth s (.tup xs) = some (!xs.isEmpty) := rfl.trans rfl
@[simp] theorem truth_loc : truth s (.loc n) = (S.lst s n).map fun xs => !xs.isEmpty := by show (match S.lst s n with | some xs => some (!xs.isEmpty) | none => none) = _; cases S.lst s n <;> rfl
@[simp] theorem itemsOf_tup : itemsOf s (.tup xs) = some xs := rfl.trans rfl
@[simp] theorem itemsOf_loc : itemsOf s (.loc n) = S.lst s n := rfl.trans rfl
/-! arithmetic -/
@[simp] theorem bin_add : bin .add (.int i) (.int j) s = .ok (.int (i + j)) s := rfl.trans rfl
@[simp] theorem bin_sub : bin .sub (.int i) (.int j) s = .ok (.int (i - j)) s := rfl.trans rfl
theorem bin_mul (h : mulOk i j = true) : bin .mul (.int i) (.int j) s = .ok (.int (i * j)) s := by show (if mulOk i j = true then R.ok (D.int (i * j)) s else .bad) = _; rw [if_pos h]
theorem bin_fdiv (h : 0 < j) (h2 : j < wide) : bin .fdiv (.int i) (.int j) s = .ok (.int (i / j)) s := by show (if 0 < j ∧ j < wide then R.ok (D.int (i / j)) s else .bad) = _; rw [if_pos ⟨h, h2⟩]
theorem bin_mod (h : 0 < j) : bin .mod (.int i) (.int j) s = .ok (.int (i % j)) s := by show (if 0 < j then R.ok (D.int (i % j)) s else .bad) = _; rw [if_pos h]
theorem bin_shr (h : 0 ≤ j) : bin .shr (.int i) (.int j) s = .ok (.int (i / 2 ^ j.toNat)) s := by show (if 0 ≤ j then R.ok (D.int (i / 2 ^ j.toNat)) s else .bad) = _; rw [if_pos h]
theorem bin_tup (h : xs.length + ys.length ≤ big) : bin .add (.tup xs) (.tup ys) s = .ok (.tup (xs ++ ys)) s := by show (if xs.length + ys.length ≤ big then R.ok (D.tup (xs ++ ys)) s else .bad) = _; rw [if_pos h]
theorem bin_str (h : x.length + y.length ≤ big) : bin .add (.str x) (.str y) s = .ok (.str (x ++ y)) s := by show (if x.length + y.length ≤ big then R.ok (D.str (x ++ y)) s else .bad) = _; rw [if_pos h]
theorem bin_lst {m n : Nat} (hx : S.mlst s m = some xs) (hy : S.mlst s n = some ys) (h : xs.length + ys.length ≤ big) : bin .add (.loc m) (.loc n) s = alloc (xs ++ ys) s := by
  show (match S.mlst s m, S.mlst s n with | some x, some y => (if x.length + y.length ≤ big then alloc (x ++ y) s else .bad) | _, _ => .bad) = _
  rw [hx, hy]
  show (if xs.length + ys.length ≤ big then alloc (xs ++ ys) s else .bad) = _
  rw [if_pos h]
theorem mul_l (h : -1000000000000000000 < i) (h2 : i < 1000000000000000000) : mulOk i j = true := by
  have : small64 i = true := by unfold small64; simp only [Bool.and_eq_true, decide_eq_true_eq]; have : wide64 = 18446744073709551616 := by decide
                                omega
  unfold mulOk; rw [this]; rfl
theorem mul_r (h : -1000000000000000000 < j) (h2 : j < 1000000000000000000) : mulOk i j = true := by
  have : small64 j = true := by unfold small64; simp only [Bool.and_eq_true, decide_eq_true_eq]; have : wide64 = 18446744073709551616 := by decide
                                omega
  unfold mulOk; rw [this, Bool.or_true]; rfl
theorem lt_wide (h : j < 1000000000000000000) : j < wide := Int.lt_trans h (by unfold wide; decide)
theorem fdiv' (h : 0 < j) (h2 : j < 1000000000000000000) : bin .fdiv (.int i) (.int j) s = .ok (.int (i / j)) s := bin_fdiv h (lt_wide h2)
theorem mull (h : -1000000000000000000 < i) (h2 : i < 1000000000000000000) : bin .mul (.int i) (.int j) s = .ok (.int (i * j)) s := bin_mul (mul_l h h2)
theorem mulr (h : -1000000000000000000 < j) (h2 : j < 1000000000000000000) : bin .mul (.int i) (.int j) s = .ok (.int (i * j)) s := bin_mul (mul_r h h2)
@[simp] theorem augD_int {op : BOp} : augD op (.int i) (.int j) s = bin op (.int i) (.int j) s := rfl.trans rfl
@[simp] theorem negD_int : negD (.int i) = some (.int (-i)) := rfl.trans rfl
/-! comparing -/
@[simp] theorem cmp_eq {d e : D} : cmp .eq d e s = eqD s d e := rfl.trans rfl
@[simp] theorem cmp_ne {d e : D} : cmp .ne d e s = (eqD s d e).map not := rfl.trans rfl
@[simp] theorem cmp_mem {d e : D} : cmp .mem d e s = mem s d e := rfl.trans rfl
@[simp] theorem cmp_nmem {d e : D} : cmp .nmem d e s = (mem s d e).map not := rfl.trans rfl
@[simp] theorem cmp_lt : cmp .lt (.int i) (.int j) s = some (decide (i < j)) := rfl.trans rfl
@[simp] theorem cmp_le : cmp .le (.int i) (.int j) s = some (decide (i ≤ j)) := rfl.trans rfl
@[simp] theorem cmp_gt : cmp .gt (.int i) (.int j) s = some (decide (j < i)) := rfl.trans rfl
@[simp] theorem cmp_ge : cmp .ge (.int i) (.int j) s = some (decide (j ≤ i)) := rfl.trans rfl
@[simp] theorem eq_int : eqD s (.int i) (.int j) = some (decide (i = j)) := by show some (i == j) = _; congr 1
@[simp] theorem eq_str : eqD s (.str x) (.str y) = some (decide (x = y)) := by show some (x == y) = _; congr 1; by_cases h : x = y <;> simp [h]
@[simp] theorem eq_bl : eqD s (.bl b) (.bl c) = some (decide (b = c)) := by show some (b == c) = _; congr 1
theorem eq_tup (h1 : okNs 39 xs = true) (h2 : okNs 39 ys = true) : eqD s (.tup xs) (.tup ys) = some (eqvs xs ys) := by
  show (if (okNs 39 xs && okNs 39 ys) = true then some (eqvs xs ys) else none) = _
  rw [h1, h2]; rfl
theorem eq_val (h1 : ok d = true) (h2 : ok e = true) : eqD s d e = some (eqv d e) := by
  have key : eqD s d e = if (ok d && ok e) = true then some (eqv d e) else none := by
    cases d <;> cases e <;> first | (simp [ok, maxDepth] at h1; done) | (simp [ok, maxDepth] at h2; done) | rfl
  rw [key, h1, h2]; rfl
theorem eq_loc (hx : S.lst s m = some xs) (hy : S.lst s n = some ys) (h1 : okNs 40 xs = true) (h2 : okNs 40 ys = true) : eqD s (.loc m) (.loc n) = some (eqvs xs ys) := by
  show (match S.lst s m, S.lst s n with | some xs, some ys => (if (okNs 40 xs && okNs 40 ys) = true then some (eqvs xs ys) else none) | _, _ => none) = _
  rw [hx, hy]
  show (if (okNs 40 xs && okNs 40 ys) = true then some (eqvs xs ys) else none) = _
  rw [h1, h2]; rfl
theorem mem_items (hy : itemsOf s e = some ys) (hd : ok d = true) (h : okNs 40 ys = true) (ns : ∀ z, e ≠ .str z) : mem s d e = some (ys.any fun y => eqv y d) := by
  cases e with
  | str z => exact absurd rfl (ns z)
  | tup zs => cases hy; unfold mem; simp only [itemsOf_tup]; rw [hd]; show (if (true && okNs 40 ys) = true then _ else _) = _; rw [h]; rfl
  | loc n => rw [itemsOf_loc] at hy; unfold mem; simp only [itemsOf_loc, hy]; rw [hd]; show (if (true && okNs 40 ys) = true then _ else _) = _; rw [h]; rfl
  | _ => cases hy
theorem mem_tup (hd : ok d = true) (h : okNs 40 ys = true) : mem s d (.tup ys) = some (ys.any fun y => eqv y d) := mem_items rfl hd h fun _ e => nomatch e
theorem mem_loc (hy : S.lst s n = some ys) (hd : ok d = true) (h : okNs 40 ys = true) : mem s d (.loc n) = some (ys.any fun y => eqv y d) := mem_items hy hd h fun _ e => nomatch e
@[simp] theorem isNon_non : isNon .non = true := rfl.trans rfl
@[simp] theorem isNon_bl : isNon (.bl b) = false := rfl.trans rfl
@[simp] theorem isNon_int : isNon (.int i) = false := rfl.trans rfl
@[simp] theorem isNon_str : isNon (.str x) = false := rfl.trans rfl
@[simp] theorem isNon_tup : isNon (.tup xs) = false := rfl.trans rfl
@[simp] theorem isNon_loc : isNon (.loc n) = false := rfl.trans rfl
/-! kinds -/
@[simp] theorem isTy_int_int : isTy s (.int i) .int = true := rfl.trans rfl
@[simp] theorem isTy_int_bl : isTy s (.bl b) .int = true := rfl.trans rfl
@[simp] theorem isTy_int_str : isTy s (.str x) .int = false := rfl.trans rfl
@[simp] theorem isTy_int_tup : isTy s (.tup xs) .int = false := rfl.trans rfl
@[simp] theorem isTy_int_loc : isTy s (.loc n) .int = false := rfl.trans rfl
@[simp] theorem isTy_int_non : isTy s .non .int = false := rfl.trans rfl
@[simp] theorem isTy_bool_int : isTy s (.int i) .bool = false := rfl.trans rfl
@[simp] theorem isTy_bool_bl : isTy s (.bl b) .bool = true := rfl.trans rfl
@[simp] theorem isTy_bool_str : isTy s (.str x) .bool = false := rfl.trans rfl
@[simp] theorem isTy_bool_tup : isTy s (.tup xs) .bool = false := rfl.trans rfl
@[simp] theorem isTy_bool_loc : isTy s (.loc n) .bool = false := rfl.trans rfl
@[simp] theorem isTy_bool_non : isTy s .non .bool = false := rfl.trans rfl
@[simp] theorem isTy_str_int : isTy s (.int i) .str = false := rfl.trans rfl
@[simp] theorem isTy_str_bl : isTy s (.bl b) .str = false := rfl.trans rfl
@[simp] theorem isTy_str_str : isTy s (.str x) .str = true := rfl.trans rfl
@[simp] theorem isTy_str_tup : isTy s (.tup xs) .str = false := rfl.trans rfl
@[simp] theorem isTy_str_loc : isTy s (.loc n) .str = false := rfl.trans rfl
@[simp] theorem isTy_str_non : isTy s .non .str = false := rfl.trans rfl
@[simp] theorem isTy_tuple_int : isTy s (.int i) .tuple = false := rfl.trans rfl
@[simp] theorem isTy_tuple_bl : isTy s (.bl b) .tuple = false := rfl.trans rfl
@[simp] theorem isTy_tuple_str : isTy s (.str x) .tuple = false := rfl.trans rfl
@[simp] theorem isTy_tuple_tup : isTy s (.tup xs) .tuple = true := rfl.trans rfl
@[simp] theorem isTy_tuple_loc : isTy s (.loc n) .tuple = false := rfl.trans rfl
@[simp] theorem isTy_tuple_non : isTy s .non .tuple = false := rfl.trans rfl
@[simp] theorem isTy_list_int : isTy s (.int i) .list = false := rfl.trans rfl
@[simp] theorem isTy_list_bl : isTy s (.bl b) .list = false := rfl.trans rfl
@[simp] theorem isTy_list_str : isTy s (.str x) .list = false := rfl.trans rfl
@[simp] theorem isTy_list_tup : isTy s (.tup xs) .list = false := rfl.trans rfl
@[simp] theorem isTy_list_loc : isTy s (.loc n) .list = (S.lst s n).isSome := rfl.trans rfl
@[simp] theorem isTy_list_non : isTy s .non .list = false := rfl.trans rfl
/-! items -/
def ixGet {α : Type} (xs : List α) (i : Int) : Option α := match ixOf xs.length i with
  | some k => xs[k]?
  | none => none
theorem ixGet_nat {α : Type} (xs : List α) (k : Nat) : ixGet xs (k : Int) = xs[k]? := by
  unfold ixGet ixOf
  rw [if_pos (by omega)]
  by_cases h : (k : Int) < xs.length
  · rw [if_pos h]; rfl
  · rw [if_neg h, List.getElem?_eq_none (by omega)]
theorem ixGet_in {α : Type} {xs : List α} {i : Int} (h : 0 ≤ i) : ixGet xs i = xs[i.toNat]? := by
  have e : i = ((i.toNat : Nat) : Int) := by omega
  rw [e, ixGet_nat]; rfl
@[simp] theorem ixGet_lit {α : Type} (xs : List α) (k : Nat) : ixGet xs (no_index (OfNat.ofNat k)) = xs[k]? := ixGet_nat xs k
theorem ixGet_m1 {α : Type} (xs : List α) : ixGet xs (-1) = xs[xs.length - 1]? := by
  unfold ixGet ixOf
  rw [if_neg (by omega)]
  by_cases h : -(xs.length : Int) ≤ -1
  · rw [if_pos h]
    have : (-1 + (xs.length : Int)).toNat = xs.length - 1 := by omega
    simp only [this]
  · rw [if_neg h, List.getElem?_eq_none (by omega)]
@[simp] theorem item_tup : item s (.tup xs) (.int i) = ixGet xs i := rfl.trans rfl
@[simp] theorem item_loc : item s (.loc n) (.int i) = (S.lst s n).bind fun xs => ixGet xs i := by
  show (match S.lst s n with | some xs => (match ixOf xs.length i with | some k => xs[k]? | none => none) | none => none) = _
  cases S.lst s n <;> rfl
@[simp] theorem item_str : item s (.str x) (.int i) = (ixGet x i).map fun c => .str [c] := by
  show (match ixOf x.length i with | some k => (match x[k]? with | some c => some (D.str [c]) | none => none) | none => none) = _
  unfold ixGet
  cases ixOf x.length i with
  | none => rfl
  | some k => show (match x[k]? with | some c => some (D.str [c]) | none => none) = (x[k]?).map _; cases x[k]? <;> rfl
/-! slices -/
@[simp] theorem slice_tup {lo hi : Option Int} : slice s (.tup xs) lo hi = .ok (.tup (cut xs lo hi)) s := rfl.trans rfl
@[simp] theorem slice_str {lo hi : Option Int} : slice s (.str x) lo hi = .ok (.str (cut x lo hi)) s := rfl.trans rfl
@[simp] theorem slice_loc {lo hi : Option Int} : slice s (.loc n) lo hi = (R.opt (S.lst s n) s).bind fun x s => alloc (cut x lo hi) s := by
  show (match S.lst s n with | some x => alloc (cut x lo hi) s | none => .bad) = _
  cases S.lst s n <;> rfl
@[simp] theorem intO_int : intO (.int i) = some (some i) := rfl.trans rfl
@[simp] theorem cut_none {α : Type} (xs : List α) : cut xs none none = xs := by simp [cut]
theorem cut_lo' {α : Type} (xs : List α) (k : Nat) : cut xs (some (k : Int)) none = xs.drop k := by
  show (xs.drop (clip xs.length (k : Int))).take (xs.length - clip xs.length (k : Int)) = _
  have e : clip xs.length (k : Int) = min k xs.length := by unfold clip; rw [if_neg (by omega)]; rfl
  rw [e]
  by_cases h : k ≤ xs.length
  · rw [Nat.min_eq_left h, ← List.length_drop, List.take_length]
  · rw [Nat.min_eq_right (by omega), List.drop_eq_nil_of_le (by omega), List.drop_eq_nil_of_le (by omega)]; simp
@[simp] theorem cut_lo {α : Type} (xs : List α) (k : Nat) : cut xs (some (no_index (OfNat.ofNat k))) none = xs.drop k := cut_lo' xs k
theorem cut_hi' {α : Type} (xs : List α) (k : Nat) : cut xs none (some (k : Int)) = xs.take k := by
  show (xs.drop 0).take (clip xs.length (k : Int) - 0) = _
  have e : clip xs.length (k : Int) = min k xs.length := by unfold clip; rw [if_neg (by omega)]; rfl
  rw [e, List.drop_zero, Nat.sub_zero, List.take_eq_take_iff]
  omega
@[simp] theorem cut_hi {α : Type} (xs : List α) (k : Nat) : cut xs none (some (no_index (OfNat.ofNat k))) = xs.take k := cut_hi' xs k
/-! built-ins -/
@[simp] theorem len_str : bcall .len [.str x] s = .ok (.int x.length) s := rfl.trans rfl
@[simp] theorem len_tup : bcall .len [.tup xs] s = .ok (.int xs.length) s := rfl.trans rfl
@[simp] theorem len_loc : bcall .len [.loc n] s = (R.opt (S.lst s n) s).bind fun xs s => .ok (.int xs.length) s := by
  show (match S.lst s n with | some xs => R.ok (D.int xs.length) s | none => .bad) = _
  cases S.lst s n <;> rfl
@[simp] theorem int_int : bcall .int [.int i] s = .ok (.int i) s := rfl.trans rfl
@[simp] theorem int_bl : bcall .int [.bl b] s = .ok (.int (if b then 1 else 0)) s := rfl.trans rfl
@[simp] theorem abs_int : bcall .abs [.int i] s = .ok (.int (if i < 0 then -i else i)) s := rfl.trans rfl
@[simp] theorem min2_int : bcall .min2 [.int i, .int j] s = .ok (.int (if j < i then j else i)) s := rfl.trans rfl
@[simp] theorem max2_int : bcall .max2 [.int i, .int j] s = .ok (.int (if i < j then j else i)) s := rfl.trans rfl
@[simp] theorem str_str : bcall .str [.str x] s = .ok (.str x) s := rfl.trans rfl
theorem divmod_int (h : 0 < j) (h2 : j < 1073741824) : bcall .divmod [.int i, .int j] s = .ok (.tup [.int (i / j), .int (i % j)]) s := by
  show (if 0 < j ∧ j < 1073741824 then R.ok (D.tup [.int (i / j), .int (i % j)]) s else .bad) = _
  rw [if_pos ⟨h, h2⟩]
@[simp] theorem lb_tuple : lbcall .tuple xs = some (.tup xs) := rfl.trans rfl
@[simp] theorem lb_len : lbcall .len xs = some (.int xs.length) := rfl.trans rfl
@[simp] theorem lb_any : lbcall .any xs = (boolsD xs).map fun bs => .bl (bs.any id) := rfl.trans rfl
@[simp] theorem lb_all : lbcall .all xs = (boolsD xs).map fun bs => .bl (bs.all id) := rfl.trans rfl
@[simp] theorem lb_sum : lbcall .sum xs = (intsD xs).map fun is => .int (sumI is) := rfl.trans rfl
@[simp] theorem lb_min : lbcall .min xs = (intsD xs).bind fun is => (minI is).map .int := by
  show (match intsD xs with | some is => (minI is).map D.int | none => none) = _
  cases intsD xs <;> rfl
@[simp] theorem lb_max : lbcall .max xs = (intsD xs).bind fun is => (maxI is).map .int := by
  show (match intsD xs with | some is => (maxI is).map D.int | none => none) = _
  cases intsD xs <;> rfl
@[simp] theorem ints_map (l : List Int) : intsD (l.map .int) = some l := by
  induction l with
  | nil => rfl
  | cons i r ih => simp only [List.map_cons, intsD, ih]
@[simp] theorem bools_map (l : List Bool) : boolsD (l.map .bl) = some l := by
  induction l with
  | nil => rfl
  | cons i r ih => simp only [List.map_cons, boolsD, ih]
/-! methods -/
@[simp] theorem m_append' : mcall .append (.loc n) [d] s = (R.opt (S.mlst s n) s).bind fun xs s => if xs.length < big then .ok .non (setS s n (.lst (xs ++ [d]))) else .bad := by
  show (match S.mlst s n with | none => R.bad | some xs => if xs.length < big then R.ok D.non (setS s n (.lst (xs ++ [d]))) else .bad) = _
  cases S.mlst s n <;> rfl
@[simp] theorem m_pop' : mcall .pop (.loc n) [] s = (R.opt (S.mlst s n) s).bind fun xs s => (R.opt xs[xs.length - 1]? s).bind fun y s => .ok y (setS s n (.lst xs.dropLast)) := by
  show (match S.mlst s n with | none => R.bad | some xs => match xs[xs.length - 1]? with | some y => R.ok y (setS s n (.lst xs.dropLast)) | none => .bad) = _
  cases S.mlst s n with
  | none => rfl
  | some xs => show (match xs[xs.length - 1]? with | some y => R.ok y (setS s n (.lst xs.dropLast)) | none => .bad) = (R.opt xs[xs.length - 1]? s).bind _; cases xs[xs.length - 1]? <;> rfl
@[simp] theorem m_pop0' : mcall .pop (.loc n) [.int 0] s = (R.opt (S.mlst s n) s).bind fun xs s => (R.opt xs[0]? s).bind fun y s => if xs.length ≤ big then .ok y (setS s n (.lst xs.tail)) else .bad := by
  show (match S.mlst s n with | none => R.bad | some xs => match ixOf xs.length 0 with | some k => (match xs[k]? with | some y => if xs.length ≤ big then R.ok y (setS s n (.lst (xs.eraseIdx k))) else .bad | none => .bad) | none => .bad) = _
  cases S.mlst s n with
  | none => rfl
  | some xs =>
    cases xs with
    | nil => rfl
    | cons x r =>
      have e : ixOf (x :: r).length 0 = some 0 := by unfold ixOf; rw [if_pos (by omega), if_pos (by simp)]; rfl
      simp only [e, opt_some, bind_ok]
      rfl
@[simp] theorem m_reverse' : mcall .reverse (.loc n) [] s = (R.opt (S.mlst s n) s).bind fun xs s => .ok .non (setS s n (.lst xs.reverse)) := by
  show (match S.mlst s n with | none => R.bad | some xs => R.ok D.non (setS s n (.lst xs.reverse))) = _
  cases S.mlst s n <;> rfl
@[simp] theorem m_clear' : mcall .clear (.loc n) [] s = (R.opt (S.mlst s n) s).bind fun xs s => .ok .non (setS s n (.lst [])) := by
  show (match S.mlst s n with | none => R.bad | some xs => R.ok D.non (setS s n (.lst []))) = _
  cases S.mlst s n <;> rfl
def setIx (xs : List D) (i : Int) (d : D) : Option (List D) := (ixOf xs.length i).map fun k => xs.set k d
@[simp] theorem setItem_loc : setItem (.loc n) (.int i) d s = (S.mlst s n).bind fun xs => (setIx xs i d).map fun ys => setS s n (.lst ys) := by
  show (match S.mlst s n with | some xs => (match ixOf xs.length i with | some k => some (setS s n (.lst (xs.set k d))) | none => none) | none => none) = _
  unfold setIx
  cases S.mlst s n with
  | none => rfl
  | some xs => show (match ixOf xs.length i with | some k => some (setS s n (.lst (xs.set k d))) | none => none) = ((ixOf xs.length i).map _).map _; cases ixOf xs.length i <;> rfl
theorem setIx_nat (k : Nat) : setIx xs (k : Int) d = if k < xs.length then some (xs.set k d) else none := by
  unfold setIx ixOf
  rw [if_pos (by omega)]
  by_cases h : k < xs.length
  · rw [if_pos (by omega), if_pos h]; rfl
  · rw [if_neg (by omega), if_neg h]; rfl
@[simp] theorem setIx_lit (k : Nat) : setIx xs (no_index (OfNat.ofNat k)) d = if k < xs.length then some (xs.set k d) else none := setIx_nat k
/-! below -/
@[simp] theorem below_non : below n .non = true := rfl.trans rfl
@[simp] theorem below_bl : below n (.bl b) = true := rfl.trans rfl
@[simp] theorem below_int : below n (.int i) = true := rfl.trans rfl
@[simp] theorem below_str : below n (.str x) = true := rfl.trans rfl
@[simp] theorem below_tup : below n (.tup ds) = belows n ds := rfl.trans rfl
@[simp] theorem below_loc : below n (.loc m) = decide (m < n) := rfl.trans rfl
@[simp] theorem belows_nil : belows n [] = true := rfl.trans rfl
@[simp] theorem belows_cons : belows n (d :: ds) = (below n d && belows n ds) := rfl.trans rfl
@[simp] theorem belows_ints : ∀ l : List Int, belows n (l.map .int) = true
  | [] => rfl
  | i :: r => by simp only [List.map_cons, belows, below_int, belows_ints r, Bool.and_self]
@[simp] theorem idxV_loc : idxV s (.loc n) d = (S.lst s n).bind fun xs => if okNs 40 xs && okN 40 d then (xs.findIdx? fun e => eqv e d).map fun j => .int (j : Nat) else none := by
  show (match S.lst s n with | some xs => (if okNs 40 xs && okN 40 d then (xs.findIdx? fun e => eqv e d).map (fun j => D.int (j : Nat)) else none) | none => none) = _
  cases S.lst s n <;> rfl
theorem idxT_strs {zs : List (List Nat)} {z : List Nat} : idxT (.tup (zs.map .str)) (.str z) = (zs.findIdx? fun e => e == z).map fun j => .int (j : Nat) := by
  have e : strsD (zs.map D.str) = some zs := by
    induction zs with
    | nil => rfl
    | cons a r ih => simp only [List.map_cons, strsD, ih]
  show (match strsD (zs.map D.str) with | some zs => (zs.findIdx? fun e => e == z).map (fun j => D.int (j : Nat)) | none => none) = _
  rw [e]
mutual
theorem eqv_self : ∀ {k : Nat} {d : D}, okN k d = true → eqv d d = true
  | _, .non, _ => eqv_non
  | _, .bl b, _ => by rw [eqv_bl]; simp
  | _, .int i, _ => by rw [eqv_int]; simp
  | _, .str x, _ => by rw [eqv_str]; simp
  | 0, .tup _, h => by cases h
  | k + 1, .tup ds, h => by rw [eqv_tup]; exact eqvs_self (k := k) (by rw [okN_tup] at h; exact h)
  | k, .loc _, h => by rw [okN_loc] at h; cases h
theorem eqvs_self : ∀ {k : Nat} {ds : List D}, okNs k ds = true → eqvs ds ds = true
  | _, [], _ => eqvs_nil
  | k, d :: ds, h => by
    rw [okNs_cons, Bool.and_eq_true] at h
    rw [eqvs_cons, eqv_self h.1, eqvs_self h.2]; rfl
end
theorem setIx_m1 (h : xs ≠ []) : setIx xs (-1) d = some (xs.set (xs.length - 1) d) := by
  have hl : 0 < xs.length := List.length_pos_iff.mpr h
  unfold setIx ixOf
  rw [if_neg (by omega), if_pos (by omega)]
  have : (-1 + (xs.length : Int)).toNat = xs.length - 1 := by omega
  simp only [this, Option.map_some]
theorem last_get {α : Type} {xs : List α} (h : xs ≠ []) : ∃ x, xs[xs.length - 1]? = some x ∧ x ∈ xs := by
  have hl : 0 < xs.length := List.length_pos_iff.mpr h
  exact ⟨xs[xs.length - 1], List.getElem?_eq_getElem (by omega), List.getElem_mem _⟩
theorem enum_mem {k : Nat} : ∀ {l : List D} {k : Nat} {z : D}, z ∈ enumFrom k l → ∃ (i : Nat) (x : D), z = .tup [.int (i : Nat), x] ∧ x ∈ l
  | [], _, _, h => by simp [enumFrom] at h
  | x :: r, k, z, h => by
    rcases List.mem_cons.mp (show z ∈ .tup [.int k, x] :: enumFrom (k + 1) r from h) with h | h
    · exact ⟨k, x, h, List.mem_cons_self⟩
    · obtain ⟨i, y, h1, h2⟩ := enum_mem (k := k) h; exact ⟨i, y, h1, List.mem_cons_of_mem _ h2⟩
theorem enum_length : ∀ {l : List D} {k : Nat}, (enumFrom k l).length = l.length
  | [], _ => rfl
  | x :: r, k => by simp only [enumFrom, List.length_cons, enum_length]
/-! walking -/
@[simp] theorem seen_tup : seen s (.tup xs) = some (xs, []) := rfl.trans rfl
@[simp] theorem seen_loc : seen s (.loc n) = (S.lst s n).map fun xs => (xs, [(n, xs)]) := by
  show (match S.lst s n with | some xs => some (xs, [(n, xs)]) | none => none) = _
  cases S.lst s n <;> rfl
@[simp] theorem watched_nil : watched [] s = true := rfl.trans rfl
theorem watched_one (h : S.lst s n = some xs) : watched [(n, xs)] s = true := by
  unfold watched
  simp only [List.all_cons, List.all_nil, Bool.and_true, h]
  exact D.beqs_self xs
theorem enu_loc (hx : S.lst s n = some xs) (h : xs.length ≤ big) : enuV s (.loc n) = some (enumFrom 0 xs, [(n, xs)]) := by
  show (match S.lst s n with | some xs => (if xs.length ≤ big then some (enumFrom 0 xs, [(n, xs)]) else none) | none => none) = _
  rw [hx]
  show (if xs.length ≤ big then some (enumFrom 0 xs, [(n, xs)]) else none) = _
  rw [if_pos h]
theorem zip_tup (h : xs.length ≤ big) : zipV s (.tup xs) (.tup ys) = some (zipD xs ys, []) := by
  show (if xs.length ≤ big then some (zipD xs ys, []) else none) = _
  rw [if_pos h]
theorem zip_loc (hx : S.lst s m = some xs) (hy : S.lst s n = some ys) (h : xs.length ≤ big) : zipV s (.loc m) (.loc n) = some (zipD xs ys, [(m, xs), (n, ys)]) := by
  show (match S.lst s m, S.lst s n with | some a, some b => (if a.length ≤ big then some (zipD a b, [(m, a), (n, b)]) else none) | _, _ => none) = _
  rw [hx, hy]
  show (if xs.length ≤ big then some (zipD xs ys, [(m, xs), (n, ys)]) else none) = _
  rw [if_pos h]
@[simp] theorem rngI_int : rngI (.int i) (.int j) = if rngOk i j then some (range i j) else none := rfl.trans rfl
theorem rng_ok (h1 : -1000000 ≤ i) (h2 : i ≤ 1000000) (h3 : -1000000 ≤ j) (h4 : j ≤ 1000000) : rngOk i j = true := by
  unfold rngOk
  simp only [Bool.and_eq_true, decide_eq_true_eq]
  have : (big : Int) = 16777216 := rfl
  omega
@[simp] theorem belowO_lst : belowO n (.lst xs) = belows n xs := rfl.trans rfl
@[simp] theorem belowO_ro : belowO n (.ro xs) = belows n xs := rfl.trans rfl
@[simp] theorem belows_append : belows n (xs ++ ys) = (belows n xs && belows n ys) := by
  induction xs with
  | nil => rfl
  | cons x r ih => simp only [List.cons_append, belows_cons, ih, Bool.and_assoc]
end
theorem belows_all {n : Nat} : ∀ {l : List D}, (∀ d ∈ l, below n d = true) → belows n l = true
  | [], _ => belows_nil
  | d :: r, h => by rw [belows_cons, h d List.mem_cons_self, belows_all fun x hx => h x (List.mem_cons_of_mem _ hx)]; rfl
theorem belows_mem {n : Nat} : ∀ {l : List D} {d : D}, belows n l = true → d ∈ l → below n d = true
  | x :: r, d, h, hd => by
    rw [belows_cons, Bool.and_eq_true] at h
    rcases List.mem_cons.mp hd with rfl | hd
    · exact h.1
    · exact belows_mem h.2 hd
mutual
theorem below_mono {n m : Nat} (h : n ≤ m) : ∀ {d : D}, below n d = true → below m d = true
  | .non, _ => below_non
  | .bl _, _ => below_bl
  | .int _, _ => below_int
  | .str _, _ => below_str
  | .tup ds, g => by rw [below_tup] at g ⊢; exact belows_mono h g
  | .loc k, g => by rw [below_loc, decide_eq_true_eq] at g ⊢; omega
theorem belows_mono {n m : Nat} (h : n ≤ m) : ∀ {ds : List D}, belows n ds = true → belows m ds = true
  | [], _ => belows_nil
  | d :: ds, g => by
    rw [belows_cons, Bool.and_eq_true] at g ⊢
    exact ⟨below_mono h g.1, belows_mono h g.2⟩
end
theorem belowO_mono {n m : Nat} (h : n ≤ m) {o : O} (g : belowO n o = true) : belowO m o = true := by
  cases o <;> exact belows_mono h g
theorem callN_at {P : Prg} {w n : Nat} {f : Str} {fn : Fn} {ds : List D} {s : S} (h : P.fn f = some fn) (hl : ds.length = fn.np) :
    callN P w (n + 1) f ds s = RS.out s (evB ⟨callN P w n, P.gl, w⟩ fn.body (start fn ds) s) := by
  simp only [callN, h, hl, if_true]
/-- an answer that is as Q says -/
def R.wp {α : Type} (r : R α) (Q : α → S → Prop) : Prop := ∃ d s, r = .ok d s ∧ Q d s
theorem wp_ok {α : Type} {d : α} {s : S} {Q : α → S → Prop} (h : Q d s) : (R.ok d s).wp Q := ⟨d, s, rfl, h⟩
theorem wp_elim {α : Type} {r : R α} {Q : α → S → Prop} (h : r.wp Q) : ∃ d s, r = .ok d s ∧ Q d s := h
/-- a body's end that is as Q says -/
def RS.rt (r : RS) (Q : D → S → Prop) : Prop := ∃ d s, r = .ret d s ∧ Q d s
theorem rt_ret {d : D} {s : S} {Q : D → S → Prop} (h : Q d s) : (RS.ret d s).rt Q := ⟨d, s, rfl, h⟩
theorem rt_gen {r : RS} {Q : D → S → Prop} (h : ∀ Q', Q' = Q → r.rt Q') : r.rt Q := h _ rfl
def RS.nx (r : RS) (Q : Env → S → Prop) : Prop := ∃ η s, r = .nxt η s ∧ Q η s
theorem nx_nxt {η : Env} {s : S} {Q : Env → S → Prop} (h : Q η s) : (RS.nxt η s).nx Q := ⟨η, s, rfl, h⟩
/-- where a part may lead -/
structure Ks where
  nx : Env → S → Prop := fun _ _ => False
  ct : Env → S → Prop := fun _ _ => False
  bk : Env → S → Prop := fun _ _ => False
  rt : D → S → Prop := fun _ _ => False
def RS.post (r : RS) (K : Ks) : Prop := match r with
  | .nxt η s => K.nx η s
  | .cnt η s => K.ct η s
  | .brk η s => K.bk η s
  | .ret d s => K.rt d s
  | _ => False
section
variable {K : Ks} {η : Env} {s : S} {d : D} {C : Ctx} {b : Blk} {r : RS}
@[simp] theorem post_nxt : (RS.nxt η s).post K = K.nx η s := rfl.trans rfl
@[simp] theorem post_cnt : (RS.cnt η s).post K = K.ct η s := rfl.trans rfl
@[simp] theorem post_brk : (RS.brk η s).post K = K.bk η s := rfl.trans rfl
@[simp] theorem post_ret : (RS.ret d s).post K = K.rt d s := rfl.trans rfl
theorem post_seq (h : r.post { K with nx := fun η s => (evB C b η s).post K }) : (seqB r C b).post K := by
  cases r <;> exact h
theorem post_gen (h : ∀ K', K' = K → r.post K') : r.post K := h _ rfl
theorem post_mono {K' : Ks} (h : r.post K) (h1 : ∀ η s, K.nx η s → K'.nx η s) (h2 : ∀ η s, K.ct η s → K'.ct η s) (h3 : ∀ η s, K.bk η s → K'.bk η s) (h4 : ∀ d s, K.rt d s → K'.rt d s) : r.post K' := by
  cases r with
  | nxt η s => exact h1 _ _ h
  | cnt η s => exact h2 _ _ h
  | brk η s => exact h3 _ _ h
  | ret d s => exact h4 _ _ h
  | _ => exact h
theorem out_wp {Q : D → S → Prop} (h : r.post { nx := fun _ s' => (norm s .non s').wp Q, rt := fun d s' => (norm s d s').wp Q }) : (RS.out s r).wp Q := by
  cases r <;> first | exact h | exact h.elim
@[simp] theorem wp_ok' {Q : D → S → Prop} : (R.ok d s).wp Q = Q d s := propext ⟨fun ⟨_, _, e, h⟩ => by cases e; exact h, wp_ok⟩
theorem wp_eq {r : R D} {d : D} {s : S} (h : r.wp fun d' s' => d' = d ∧ s' = s) : r = .ok d s := by
  obtain ⟨_, _, h, rfl, rfl⟩ := h; exact h
end
/-- a store whose places lie within -/
def wf (s : S) : Prop := s.all (belowO s.length) = true
theorem take_len {t : S} {s : S} (h : t.length = s.length) : t.take s.length = t := by rw [← h, List.take_length]
/-- what was there is changed, nothing is new -/
theorem norm_same {s t : S} {d : D} (hl : t.length = s.length) (hw : t = s ∨ wf t) (hd : below s.length d = true) : norm s d t = .ok d t := by
  unfold norm
  rw [take_len hl]
  have hc : t = s ∨ t.all (belowO s.length) = true := by
    rcases hw with h | h
    · exact .inl h
    · right; unfold wf at h; rw [hl] at h; exact h
  simp only [if_pos hc, hd, if_true]
theorem norm_self {s : S} {d : D} (hd : below s.length d = true) : norm s d s = .ok d s := norm_same rfl (.inl rfl) hd
/-- new things are dropped -/
theorem norm_drop {s t u : S} {d : D} (hl : t.length = s.length) (hw : t = s ∨ wf t) (hd : below s.length d = true) : norm s d (t ++ u) = .ok d t := by
  unfold norm
  have e : (t ++ u).take s.length = t := by rw [← hl, List.take_left']; rfl
  rw [e]
  have hc : t = s ∨ t.all (belowO s.length) = true := by
    rcases hw with h | h
    · exact .inl h
    · right; unfold wf at h; rw [hl] at h; exact h
  simp only [if_pos hc, hd, if_true]
/-- a new list is returned -/
theorem norm_new {s t u : S} {k : Nat} {xs : List D} (hl : t.length = s.length) (hw : t = s ∨ wf t) (hk : S.mlst (t ++ u) k = some xs) (h2 : s.length ≤ k) (hx : belows s.length xs = true) : norm s (.loc k) (t ++ u) = .ok (.loc s.length) (t ++ [.lst xs]) := by
  unfold norm
  have e : (t ++ u).take s.length = t := by rw [← hl, List.take_left']; rfl
  rw [e]
  have hc : t = s ∨ t.all (belowO s.length) = true := by
    rcases hw with h | h
    · exact .inl h
    · right; unfold wf at h; rw [hl] at h; exact h
  have hb : ¬ (below s.length (.loc k) = true) := by simp only [below, decide_eq_true_eq]; omega
  simp only [if_pos hc, if_neg hb, hk]
  rw [if_pos ⟨hx, h2, hl⟩]
end PX
end
section
/-! PX: loops by invariants -/
namespace PX
/-- [h a for a in l if p a], nothing is changed -/
theorem comp_map {α : Type} {W : List (Nat × List D)} {t : Tg} {c x : Env → S → R D} {η : Env} {s : S} (g : α → D) (p : α → Bool) (h : α → D) (hw : watched W s = true) :
    ∀ (l : List α) (acc : List D), (∀ a ∈ l, ∃ η1, bind1 t (g a) η = some η1 ∧ (∃ v, c η1 s = .ok v s ∧ truth s v = some (p a)) ∧ (p a = true → x η1 s = .ok (h a) s)) →
      compLoop W t c x η (l.map g) acc s = .ok (acc ++ (l.filter p).map h) s
  | [], acc, _ => by simp [compLoop]
  | a :: r, acc, H => by
    obtain ⟨η1, h1, ⟨v, h2, h3⟩, h4⟩ := H a List.mem_cons_self
    have ih := fun acc => comp_map (W := W) (t := t) (c := c) (x := x) (η := η) g p h hw r acc fun b hb => H b (List.mem_cons_of_mem _ hb)
    simp only [List.map_cons, compLoop, h1, h2, bind_ok, h3]
    cases hp : p a with
    | true => simp only [by_true, h4 hp, bind_ok, hw, ih, List.filter_cons, hp, if_true, List.map_cons, List.append_assoc, List.singleton_append]
    | false => simp only [by_false, hw, by_true, ih, List.filter_cons, hp, Bool.false_eq_true, if_false]
theorem comp_all {α : Type} {W : List (Nat × List D)} {t : Tg} {c x : Env → S → R D} {η : Env} {s : S} (g : α → D) (h : α → D) (l : List α) (acc : List D) (hw : watched W s = true)
    (H : ∀ a ∈ l, ∃ η1, bind1 t (g a) η = some η1 ∧ (∃ v, c η1 s = .ok v s ∧ truth s v = some true) ∧ x η1 s = .ok (h a) s) :
      compLoop W t c x η (l.map g) acc s = .ok (acc ++ l.map h) s := by
  have := comp_map (W := W) (t := t) (c := c) (x := x) (η := η) g (fun _ => true) h hw l acc fun a ha => let ⟨η1, h1, h2, h3⟩ := H a ha; ⟨η1, h1, h2, fun _ => h3⟩
  have ft : l.filter (fun _ => true) = l := List.filter_eq_self.mpr fun _ _ => rfl
  rw [ft] at this
  exact this
/-- a comprehension by an invariant of what is left, what is made and the store -/
theorem comp_inv {W : List (Nat × List D)} {t : Tg} {c x : Env → S → R D} {η : Env} (I : List D → List D → S → Prop)
    (step : ∀ d ds acc s, I (d :: ds) acc s → ∃ η1, bind1 t d η = some η1 ∧ ∃ v s1 b, c η1 s = .ok v s1 ∧ truth s1 v = some b ∧
      (if b = true then ∃ y s2, x η1 s1 = .ok y s2 ∧ watched W s2 = true ∧ I ds (acc ++ [y]) s2 else watched W s1 = true ∧ I ds acc s1)) :
    ∀ (ds acc : List D) (s : S), I ds acc s → (compLoop W t c x η ds acc s).wp fun ys s' => I [] ys s'
  | [], acc, s, h => ⟨acc, s, rfl, h⟩
  | d :: ds, acc, s, h => by
    obtain ⟨η1, h1, v, s1, b, h2, h3, h4⟩ := step d ds acc s h
    simp only [compLoop, h1, h2, bind_ok, h3]
    cases b with
    | true =>
      obtain ⟨y, s2, h5, h6, h7⟩ := h4
      simp only [by_true, h5, bind_ok, h6]
      exact comp_inv I step ds (acc ++ [y]) s2 h7
    | false =>
      obtain ⟨h6, h7⟩ := h4
      simp only [by_false, h6, by_true]
      exact comp_inv I step ds acc s1 h7
theorem for_post {W : List (Nat × List D)} {t : Tg} {b : Env → S → RS} {K : Ks} (I : List D → Env → S → Prop)
    (step : ∀ d ds η s, I (d :: ds) η s → ∃ η1, bind1 t d η = some η1 ∧ (b η1 s).post { nx := fun η2 s2 => watched W s2 = true ∧ I ds η2 s2, ct := fun η2 s2 => watched W s2 = true ∧ I ds η2 s2, bk := K.nx, rt := K.rt }) (done : ∀ η s, I [] η s → K.nx η s) :
    ∀ (ds : List D) (η : Env) (s : S), I ds η s → (forLoop W t b ds η s).post K
  | [], η, s, h => done η s h
  | d :: ds, η, s, h => by
    obtain ⟨η1, h1, h2⟩ := step d ds η s h
    simp only [forLoop, h1]
    generalize b η1 s = r at h2 ⊢
    cases r with
    | nxt η2 s2 => simp only [turn_nxt, (show watched W s2 = true from h2.1), sby_true]; exact for_post I step done ds _ _ h2.2
    | cnt η2 s2 => simp only [turn_cnt, (show watched W s2 = true from h2.1), sby_true]; exact for_post I step done ds _ _ h2.2
    | brk η2 s2 => exact h2
    | ret d s2 => exact h2
    | exn _ _ _ => exact h2
    | bad => exact h2
/-- while, by an invariant with a measure -/
theorem while_post {c : Env → S → R D} {b : Env → S → RS} {K : Ks} (I : Nat → Env → S → Prop)
    (step : ∀ n η s, I n η s → ∃ v s1 k, c η s = .ok v s1 ∧ truth s1 v = some k ∧ (if k = true then (b η s1).post { nx := fun η2 s2 => ∃ m, m < n ∧ I m η2 s2, ct := fun η2 s2 => ∃ m, m < n ∧ I m η2 s2, bk := K.nx, rt := K.rt } else K.nx η s1)) :
    ∀ (f n : Nat) (η : Env) (s : S), n < f → I n η s → (whileLoop c b f η s).post K
  | 0, _, _, _, hf, _ => absurd hf (Nat.not_lt_zero _)
  | f + 1, n, η, s, hf, h => by
    obtain ⟨v, s1, k, h1, h2, h3⟩ := step n η s h
    simp only [whileLoop, h1, run_ok, h2]
    cases k with
    | false => exact h3
    | true =>
      rw [if_pos rfl] at h3
      simp only [sby_true]
      generalize b η s1 = r at h3 ⊢
      cases r with
      | nxt η2 s2 => obtain ⟨m, hm, hn⟩ := (show ∃ m, m < n ∧ I m η2 s2 from h3); simp only [turn_nxt]; exact while_post I step f m _ _ (by omega) hn
      | cnt η2 s2 => obtain ⟨m, hm, hn⟩ := (show ∃ m, m < n ∧ I m η2 s2 from h3); simp only [turn_cnt]; exact while_post I step f m _ _ (by omega) hn
      | brk η2 s2 => exact h3
      | ret d s2 => exact h3
      | exn _ _ _ => exact h3
      | bad => exact h3
theorem range_eq (n : Nat) : range 0 (n : Int) = (List.range n).map fun k => D.int (k : Nat) := by
  unfold range
  simp
/-- numbers from i on, m of them -/
def nums (i m : Nat) : List D := (List.range' i m).map fun k => D.int (k : Nat)
theorem range_nums (n : Nat) : range 0 (n : Int) = nums 0 n := by rw [range_eq, List.range_eq_range']; rfl
theorem nums_inv {i m : Nat} {d : D} {ds : List D} (h : d :: ds = nums i m) : ∃ m', m = m' + 1 ∧ d = .int (i : Nat) ∧ ds = nums (i + 1) m' := by
  cases m with
  | zero => simp [nums] at h
  | succ m =>
    unfold nums at h
    rw [List.range'_succ, List.map_cons] at h
    injection h with h1 h2
    exact ⟨m, rfl, h1, h2⟩
theorem nums_nil {i m : Nat} (h : [] = nums i m) : m = 0 := by
  cases m with
  | zero => rfl
  | succ m => unfold nums at h; rw [List.range'_succ, List.map_cons] at h; cases h
theorem norm_bl {s s' : S} {b : Bool} : (norm s (.bl b) s').wp fun d _ => d = .bl b := by
  unfold norm
  simp only [below_bl, if_true]
  split <;> exact wp_ok rfl
theorem law_end {r : R D} {b : Bool} (h : r.wp fun d _ => d = .bl b) : ∃ s', r = .ok (.bl b) s' := by
  obtain ⟨_, s', e, rfl⟩ := h; exact ⟨s', e⟩
theorem compLoop_nil {W : List (Nat × List D)} {t : Tg} {c x : Env → S → R D} {η : Env} {acc : List D} {s : S} : compLoop W t c x η [] acc s = .ok acc s := rfl.trans rfl
theorem compLoop_cons {W : List (Nat × List D)} {t : Tg} {c x : Env → S → R D} {η : Env} {acc : List D} {s : S} {d : D} {ds : List D} : compLoop W t c x η (d :: ds) acc s = (R.opt (bind1 t d η) s).bind fun η1 s => (c η1 s).bind fun v s1 => R.by (truth s1 v)
        ((x η1 s1).bind fun y s2 => R.by (some (watched W s2)) (compLoop W t c x η ds (acc ++ [y]) s2) .bad)
        (R.by (some (watched W s1)) (compLoop W t c x η ds acc s1) .bad) := by
  simp only [compLoop]
  cases bind1 t d η <;> rfl
theorem forLoop_nil {W : List (Nat × List D)} {t : Tg} {b : Env → S → RS} {η : Env} {s : S} : forLoop W t b [] η s = .nxt η s := rfl.trans rfl
end PX
end
namespace PX
def F_is_integer : Fn := ⟨1, 1,
    (.cons (.ret (.and (.isin (.var 0) [.int]) (.not (.isin (.var 0) [.bool]))))
    .nil)⟩
def F_is_ascending : Fn := ⟨2, 4,
    (.cons (.ife (.not (.isin (.var 0) [.tuple]))
    (.cons (.ret (.cst (.bl false)))
    .nil)
    .nil)
    (.cons (.asg (.nm 2) (.cst (.int 0)))
    (.cons (.fr (.nm 3) (.sq (.ofv (.var 0)))
    (.cons (.ife (.or (.not (.call "is_integer" (.cons (.var 3) .nil))) (.or (.cmp .lt (.var 3) (.var 2)) (.cmp .ge (.var 3) (.var 1))))
    (.cons (.ret (.cst (.bl false)))
    .nil)
    .nil)
    (.cons (.asg (.nm 2) (.bin .add (.var 3) (.cst (.int 1))))
    .nil)))
    (.cons (.ret (.cst (.bl true)))
    .nil))))⟩
def F_is_word : Fn := ⟨2, 2,
    (.cons (.ret (.and (.isin (.var 0) [.str]) (.cmp .mem (.var 0) (.var 1))))
    .nil)⟩
def F_is_rule : Fn := ⟨1, 11,
    (.cons (.ife (.or (.not (.isin (.var 0) [.tuple])) (.cmp .ne (.b .len (.cons (.var 0) .nil)) (.cst (.int 8))))
    (.cons (.ret (.cst (.bl false)))
    .nil)
    .nil)
    (.cons (.asg (.tp (.cons (.nm 1) (.cons (.nm 2) (.cons (.nm 3) (.cons (.nm 4) (.cons (.nm 5) (.cons (.nm 6) (.cons (.nm 7) (.cons (.nm 8) .nil))))))))) (.var 0))
    (.cons (.fr (.nm 9) (.sq (.ofv (.tup (.cons (.var 1) (.cons (.var 2) (.cons (.var 3) .nil))))))
    (.cons (.ife (.or (.not (.call "is_integer" (.cons (.var 9) .nil))) (.or (.cmp .lt (.var 9) (.cst (.int 1))) (.cmp .gt (.var 9) (.cst (.int 3)))))
    (.cons (.ret (.cst (.bl false)))
    .nil)
    .nil)
    .nil))
    (.cons (.ife (.or (.not (.call "is_word" (.cons (.var 4) (.cons (.glo "SENDS") .nil)))) (.or (.not (.isin (.var 5) [.bool])) (.not (.call "is_word" (.cons (.var 6) (.cons (.glo "LOOKS") .nil))))))
    (.cons (.ret (.cst (.bl false)))
    .nil)
    .nil)
    (.cons (.ife (.or (.not (.isin (.var 7) [.tuple])) (.cmp .gt (.b .len (.cons (.var 7) .nil)) (.cst (.int 3))))
    (.cons (.ret (.cst (.bl false)))
    .nil)
    .nil)
    (.cons (.fr (.nm 10) (.sq (.ofv (.var 7)))
    (.cons (.ife (.or (.not (.call "is_ascending" (.cons (.var 10) (.cons (.var 2) .nil)))) (.cmp .eq (.var 10) (.tup .nil)))
    (.cons (.ret (.cst (.bl false)))
    .nil)
    .nil)
    .nil))
    (.cons (.ret (.and (.call "is_ascending" (.cons (.var 8) (.cons (.bin .mul (.var 1) (.var 2)) .nil))) (.cmp .le (.b .len (.cons (.var 8) .nil)) (.cst (.int 2)))))
    .nil)))))))⟩
def F_need_rule : Fn := ⟨1, 1,
    (.cons (.ife (.not (.call "is_rule" (.cons (.var 0) .nil)))
    (.cons (.rais (.cst .non))
    .nil)
    .nil)
    .nil)⟩
def F_rule_form : Fn := ⟨1, 9,
    (.cons (.expr (.call "need_rule" (.cons (.var 0) .nil)))
    (.cons (.asg (.tp (.cons (.nm 1) (.cons (.nm 2) (.cons (.nm 3) (.cons (.nm 4) (.cons (.nm 5) (.cons (.nm 6) (.cons (.nm 7) (.cons (.nm 8) .nil))))))))) (.var 0))
    (.cons (.ife (.and (.cmp .eq (.var 1) (.cst (.int 1))) (.var 5))
    (.cons (.ret (.glo "STRAIGHT"))
    .nil)
    .nil)
    (.cons (.ife (.cmp .eq (.var 1) (.cst (.int 1)))
    (.cons (.asg (.nm 4) (.cst (.str [119, 104, 111, 108, 101])))
    .nil)
    .nil)
    (.cons (.ret (.tup (.cons (.lb .min (.lit (.cons (.var 3) (.cons (.cst (.int 2)) (.cons (.var 2) .nil))))) (.cons (.var 4) (.cons (.and (.var 5) (.cmp .ne (.var 4) (.cst (.str [112, 97, 114, 116, 115])))) (.cons (.var 6) .nil))))))
    .nil)))))⟩
def F_need_comparable : Fn := ⟨2, 2,
    (.cons (.expr (.call "need_rule" (.cons (.var 0) .nil)))
    (.cons (.expr (.call "need_rule" (.cons (.var 1) .nil)))
    (.cons (.ife (.cmp .ne (.bin .add (.sl (.var 0) .none (.some (.cst (.int 2)))) (.sl (.var 0) (.some (.cst (.int 6))) .none)) (.bin .add (.sl (.var 1) .none (.some (.cst (.int 2)))) (.sl (.var 1) (.some (.cst (.int 6))) .none)))
    (.cons (.rais (.cst .non))
    .nil)
    .nil)
    .nil)))⟩
def F_form_within : Fn := ⟨2, 2,
    (.cons (.ife (.or (.cmp .eq (.var 0) (.glo "STRAIGHT")) (.cmp .eq (.var 1) (.glo "STRAIGHT")))
    (.cons (.ret (.cmp .eq (.var 0) (.glo "STRAIGHT")))
    .nil)
    .nil)
    (.cons (.ife (.or (.cmp .gt (.ix (.var 0) (.cst (.int 0))) (.ix (.var 1) (.cst (.int 0)))) (.cmp .nmem (.ix (.var 0) (.cst (.int 1))) (.tup (.cons (.cst (.str [119, 104, 111, 108, 101])) (.cons (.ix (.var 1) (.cst (.int 1))) .nil)))))
    (.cons (.ret (.cst (.bl false)))
    .nil)
    .nil)
    (.cons (.ife (.and (.ix (.var 1) (.cst (.int 2))) (.not (.ix (.var 0) (.cst (.int 2)))))
    (.cons (.ret (.cst (.bl false)))
    .nil)
    .nil)
    (.cons (.ret (.cmp .le (.idxG "LOOK_ORDER" (.ix (.var 0) (.cst (.int 3)))) (.idxG "LOOK_ORDER" (.ix (.var 1) (.cst (.int 3))))))
    .nil))))⟩
def F_rule_within : Fn := ⟨2, 2,
    (.cons (.expr (.call "need_comparable" (.cons (.var 0) (.cons (.var 1) .nil))))
    (.cons (.ret (.call "form_within" (.cons (.call "rule_form" (.cons (.var 0) .nil)) (.cons (.call "rule_form" (.cons (.var 1) .nil)) .nil))))
    .nil))⟩
def F_parting_ops : Fn := ⟨3, 5,
    (.cons (.ife (.cmp .eq (.var 2) (.glo "STRAIGHT"))
    (.cons (.ret (.tup (.cons (.lst (.lit (.cons (.tup (.cons (.cst (.str [119, 114, 105, 116, 101])) (.cons (.cst (.int 0)) .nil))) (.cons (.tup (.cons (.cst (.str [112, 117, 116])) (.cons (.cst (.int 0)) .nil))) .nil)))) (.cons (.tup (.cons (.cst (.str [102, 97, 108, 108, 115])) (.cons (.cst (.int 0)) .nil))) .nil))))
    .nil)
    .nil)
    (.cons (.ife (.cmp .gt (.ix (.var 1) (.cst (.int 0))) (.ix (.var 2) (.cst (.int 0))))
    (.cons (.ret (.tup (.cons (.lst (.lit (.cons (.tup (.cons (.cst (.str [119, 114, 105, 116, 101])) (.cons (.cst (.int 0)) .nil))) (.cons (.tup (.cons (.cst (.str [119, 114, 105, 116, 101])) (.cons (.var 0) .nil))) .nil)))) (.cons (.tup (.cons (.cst (.str [97, 104, 101, 97, 100])) (.cons (.cst (.int 0)) (.cons (.cst (.int 1)) .nil)))) .nil))))
    .nil)
    .nil)
    (.cons (.ife (.cmp .nmem (.ix (.var 1) (.cst (.int 1))) (.tup (.cons (.cst (.str [119, 104, 111, 108, 101])) (.cons (.ix (.var 2) (.cst (.int 1))) .nil))))
    (.cons (.ife (.cmp .eq (.ix (.var 1) (.cst (.int 1))) (.cst (.str [112, 97, 114, 116, 115])))
    (.cons (.ret (.tup (.cons (.lst (.lit (.cons (.tup (.cons (.cst (.str [119, 114, 105, 116, 101])) (.cons (.cst (.int 0)) .nil))) (.cons (.tup (.cons (.cst (.str [119, 114, 105, 116, 101])) (.cons (.cst (.int 1)) .nil))) .nil)))) (.cons (.tup (.cons (.cst (.str [97, 104, 101, 97, 100])) (.cons (.cst (.int 0)) (.cons (.cst (.int 1)) .nil)))) .nil))))
    .nil)
    .nil)
    (.cons (.ret (.tup (.cons (.lst (.lit (.cons (.tup (.cons (.cst (.str [119, 114, 105, 116, 101])) (.cons (.cst (.int 0)) .nil))) (.cons (.tup (.cons (.cst (.str [112, 117, 116])) (.cons (.cst (.int 1)) .nil))) .nil)))) (.cons (.tup (.cons (.cst (.str [102, 97, 108, 108, 115])) (.cons (.cst (.int 1)) .nil))) .nil))))
    .nil))
    .nil)
    (.cons (.ife (.and (.ix (.var 2) (.cst (.int 2))) (.not (.ix (.var 1) (.cst (.int 2)))))
    (.cons (.asg (.nm 3) (.lst (.comp [4] (.nm 4) (.rng (.cst (.int 0)) (.var 0)) .none (.tup (.cons (.cst (.str [119, 114, 105, 116, 101])) (.cons (.var 4) .nil))))))
    (.cons (.ret (.tup (.cons (.bin .add (.var 3) (.lst (.lit (.cons (.tup (.cons (.cst (.str [112, 117, 116])) (.cons (.cst (.int 1)) .nil))) .nil)))) (.cons (.tup (.cons (.cst (.str [97, 104, 101, 97, 100])) (.cons (.cst (.int 0)) (.cons (.var 0) .nil)))) .nil))))
    .nil))
    .nil)
    (.cons (.ife (.cmp .eq (.ix (.var 2) (.cst (.int 3))) (.cst (.str [105, 110, 116, 111])))
    (.cons (.ret (.tup (.cons (.lst (.lit (.cons (.tup (.cons (.cst (.str [119, 114, 105, 116, 101])) (.cons (.cst (.int 0)) .nil))) (.cons (.tup (.cons (.cst (.str [114, 101, 97, 100])) (.cons (.cst (.int 0)) .nil))) .nil)))) (.cons (.tup (.cons (.cst (.str [101, 108, 100, 101, 114])) (.cons (.cst (.int 1)) .nil))) .nil))))
    .nil)
    .nil)
    (.cons (.ret (.tup (.cons (.lst (.lit (.cons (.tup (.cons (.cst (.str [119, 114, 105, 116, 101])) (.cons (.cst (.int 0)) .nil))) (.cons (.tup (.cons (.cst (.str [114, 101, 97, 100])) (.cons (.cst (.int 0)) .nil))) (.cons (.tup (.cons (.cst (.str [112, 117, 116])) (.cons (.cst (.int 0)) .nil))) .nil))))) (.cons (.tup (.cons (.cst (.str [102, 97, 108, 108, 115])) (.cons (.cst (.int 0)) .nil))) .nil))))
    .nil))))))⟩
def F_parting_program : Fn := ⟨2, 9,
    (.cons (.expr (.call "need_comparable" (.cons (.var 0) (.cons (.var 1) .nil))))
    (.cons (.asg (.nm 2) (.call "rule_form" (.cons (.var 0) .nil)))
    (.cons (.asg (.nm 3) (.call "rule_form" (.cons (.var 1) .nil)))
    (.cons (.ife (.call "form_within" (.cons (.var 2) (.cons (.var 3) .nil)))
    (.cons (.ret (.cst .non))
    .nil)
    .nil)
    (.cons (.asg (.tp (.cons (.nm 4) (.cons (.nm 5) .nil))) (.call "parting_ops" (.cons (.ix (.var 0) (.cst (.int 0))) (.cons (.var 2) (.cons (.var 3) .nil)))))
    (.cons (.asg (.nm 6) (.lst (.comp [7, 8] (.tp (.cons (.nm 7) (.cons (.nm 8) .nil))) (.enu (.var 4)) .none (.tup (.cons (.var 8) (.cons (.tup .nil) (.cons (.tup (.cons (.bin .add (.var 7) (.cst (.int 1))) .nil)) .nil)))))))
    (.cons (.setIx (.var 6) (.neg (.cst (.int 1))) (.tup (.cons (.ix (.var 4) (.neg (.cst (.int 1)))) (.cons (.tup .nil) (.cons (.tup .nil) .nil)))))
    (.cons (.ret (.tup (.cons (.lb .tuple (.ofv (.var 6))) (.cons (.var 5) .nil))))
    .nil))))))))⟩
def F__law_pool : Fn := ⟨1, 4,
    (.cons (.asg (.nm 1) (.cst (.int 1000000000000000000)))
    (.cons (.asg (.nm 2) (.lst (.comp [3] (.nm 3) (.sq (.ofv (.var 0))) .none (.b .abs (.cons (.var 3) .nil)))))
    (.cons (.ret (.lst (.lit (.cons (.lst (.comp [3] (.nm 3) (.sq (.ofv (.var 2))) (.some (.cmp .ge (.var 3) (.var 1))) (.var 3))) (.cons (.lst (.comp [3] (.nm 3) (.sq (.ofv (.var 2))) (.some (.cmp .lt (.var 3) (.var 1))) (.var 3))) (.cons (.cst (.int 0)) .nil))))))
    .nil)))⟩
def F__law_draw : Fn := ⟨2, 8,
    (.cons (.setIx (.var 0) (.cst (.int 2)) (.bin .add (.ix (.var 0) (.cst (.int 2))) (.cst (.int 1))))
    (.cons (.asg (.nm 2) (.ix (.var 0) (.cst (.int 2))))
    (.cons (.asg (.nm 3) (.ix (.var 0) (.cst (.int 0))))
    (.cons (.ife (.var 3)
    (.cons (.asg (.nm 7) (.bin .mod (.b .int (.cons (.ix (.var 3) (.cst (.int 0))) .nil)) (.var 1)))
    (.cons (.setIx (.var 3) (.cst (.int 0)) (.bin .fdiv (.ix (.var 3) (.cst (.int 0))) (.var 1)))
    (.cons (.ife (.cmp .eq (.ix (.var 3) (.cst (.int 0))) (.cst (.int 0)))
    (.cons (.expr (.m .pop (.var 3) (.cons (.cst (.int 0)) .nil)))
    .nil)
    .nil)
    (.cons (.ret (.var 7))
    .nil))))
    .nil)
    (.cons (.asg (.nm 4) (.ix (.var 0) (.cst (.int 1))))
    (.cons (.asg (.nm 5) (.cst (.int 0)))
    (.cons (.ife (.var 4)
    (.cons (.asg (.nm 5) (.ix (.var 4) (.bin .mod (.b .int (.cons (.bin .add (.bin .mul (.cst (.int 7)) (.var 2)) (.bin .fdiv (.var 2) (.cst (.int 5)))) .nil)) (.b .len (.cons (.var 4) .nil)))))
    .nil)
    .nil)
    (.cons (.asg (.nm 6) (.bin .mod (.b .int (.cons (.bin .add (.bin .add (.bin .mul (.var 5) (.cst (.int 48271))) (.bin .mul (.var 2) (.cst (.int 69621)))) (.cst (.int 12345))) .nil)) (.cst (.int 2147483647))))
    (.cons (.asg (.nm 6) (.bin .mod (.b .int (.cons (.bin .add (.bin .add (.bin .mul (.var 6) (.var 6)) (.bin .mul (.bin .mul (.var 2) (.var 2)) (.cst (.int 16807)))) (.var 5)) .nil)) (.cst (.int 2147483629))))
    (.cons (.asg (.nm 6) (.bin .mod (.b .int (.cons (.bin .add (.bin .mul (.bin .fdiv (.var 6) (.cst (.int 7))) (.bin .add (.bin .mod (.b .int (.cons (.var 6) .nil)) (.cst (.int 65521))) (.cst (.int 3)))) (.var 2)) .nil)) (.cst (.int 2147483587))))
    (.cons (.ret (.bin .mod (.b .int (.cons (.bin .fdiv (.var 6) (.cst (.int 16))) .nil)) (.var 1)))
    .nil)))))))))))⟩
def F__law_ways : Fn := ⟨2, 14,
    (.cons (.asg (.nm 2) (.bin .add (.cst (.int 1)) (.call "_law_draw" (.cons (.var 0) (.cons (.var 1) .nil)))))
    (.cons (.asg (.nm 3) (.bin .add (.cst (.int 1)) (.call "_law_draw" (.cons (.var 0) (.cons (.cst (.int 3)) .nil)))))
    (.cons (.asg (.nm 4) (.bin .add (.cst (.int 1)) (.call "_law_draw" (.cons (.var 0) (.cons (.cst (.int 3)) .nil)))))
    (.cons (.asg (.nm 5) (.ix (.lst (.lit (.cons (.cst (.str [119, 104, 111, 108, 101])) (.cons (.cst (.str [112, 97, 114, 116, 115])) (.cons (.cst (.str [102, 105, 108, 108, 101, 100])) .nil))))) (.call "_law_draw" (.cons (.var 0) (.cons (.cst (.int 3)) .nil)))))
    (.cons (.asg (.nm 6) (.cmp .eq (.call "_law_draw" (.cons (.var 0) (.cons (.cst (.int 3)) .nil))) (.cst (.int 1))))
    (.cons (.asg (.nm 7) (.ix (.lst (.lit (.cons (.cst (.str [105, 110, 116, 111])) (.cons (.cst (.str [112, 97, 115, 116])) (.cons (.cst (.str [102, 105, 114, 115, 116])) .nil))))) (.call "_law_draw" (.cons (.var 0) (.cons (.cst (.int 3)) .nil)))))
    (.cons (.asg (.nm 8) (.lst (.lit .nil)))
    (.cons (.fr (.nm 9) (.rng (.cst (.int 0)) (.call "_law_draw" (.cons (.var 0) (.cons (.cst (.int 4)) .nil))))
    (.cons (.asg (.nm 11) (.lst (.comp [13] (.nm 13) (.rng (.cst (.int 0)) (.var 3)) (.some (.cmp .eq (.call "_law_draw" (.cons (.var 0) (.cons (.cst (.int 2)) .nil))) (.cst (.int 0)))) (.var 13))))
    (.cons (.ife (.not (.var 11))
    (.cons (.asg (.nm 11) (.lst (.lit (.cons (.call "_law_draw" (.cons (.var 0) (.cons (.var 3) .nil))) .nil))))
    .nil)
    .nil)
    (.cons (.expr (.m .append (.var 8) (.cons (.lb .tuple (.ofv (.var 11))) .nil)))
    .nil))))
    (.cons (.asg (.nm 10) (.lst (.comp [12] (.nm 12) (.rng (.cst (.int 0)) (.bin .mul (.var 2) (.var 3))) (.some (.cmp .eq (.call "_law_draw" (.cons (.var 0) (.cons (.cst (.int 3)) .nil))) (.cst (.int 0)))) (.var 12))))
    (.cons (.ret (.tup (.cons (.var 2) (.cons (.var 3) (.cons (.var 4) (.cons (.var 5) (.cons (.var 6) (.cons (.var 7) (.cons (.lb .tuple (.ofv (.var 8))) (.cons (.lb .tuple (.ofv (.sl (.var 10) .none (.some (.cst (.int 2)))))) .nil))))))))))
    .nil))))))))))⟩
def F__law_twin : Fn := ⟨2, 6,
    (.cons (.asg (.nm 2) (.bin .add (.cst (.int 1)) (.call "_law_draw" (.cons (.var 0) (.cons (.cst (.int 3)) .nil)))))
    (.cons (.asg (.nm 3) (.ix (.lst (.lit (.cons (.cst (.str [119, 104, 111, 108, 101])) (.cons (.cst (.str [112, 97, 114, 116, 115])) (.cons (.cst (.str [102, 105, 108, 108, 101, 100])) .nil))))) (.call "_law_draw" (.cons (.var 0) (.cons (.cst (.int 3)) .nil)))))
    (.cons (.asg (.nm 4) (.cmp .eq (.call "_law_draw" (.cons (.var 0) (.cons (.cst (.int 2)) .nil))) (.cst (.int 1))))
    (.cons (.asg (.nm 5) (.ix (.lst (.lit (.cons (.cst (.str [105, 110, 116, 111])) (.cons (.cst (.str [112, 97, 115, 116])) (.cons (.cst (.str [102, 105, 114, 115, 116])) .nil))))) (.call "_law_draw" (.cons (.var 0) (.cons (.cst (.int 3)) .nil)))))
    (.cons (.ret (.bin .add (.bin .add (.sl (.var 1) .none (.some (.cst (.int 2)))) (.tup (.cons (.var 2) (.cons (.var 3) (.cons (.var 4) (.cons (.var 5) .nil)))))) (.sl (.var 1) (.some (.cst (.int 6))) .none)))
    .nil)))))⟩
def F__law_wider : Fn := ⟨2, 8,
    (.cons (.asg (.nm 2) (.bin .add (.ix (.var 1) (.cst (.int 2))) (.call "_law_draw" (.cons (.var 0) (.cons (.bin .sub (.cst (.int 4)) (.ix (.var 1) (.cst (.int 2)))) .nil)))))
    (.cons (.asg (.nm 3) (.ix (.var 1) (.cst (.int 3))))
    (.cons (.ife (.cmp .eq (.var 3) (.cst (.str [119, 104, 111, 108, 101])))
    (.cons (.asg (.nm 3) (.ix (.lst (.lit (.cons (.cst (.str [119, 104, 111, 108, 101])) (.cons (.cst (.str [112, 97, 114, 116, 115])) (.cons (.cst (.str [102, 105, 108, 108, 101, 100])) .nil))))) (.call "_law_draw" (.cons (.var 0) (.cons (.cst (.int 3)) .nil)))))
    .nil)
    .nil)
    (.cons (.asg (.nm 4) (.and (.ix (.var 1) (.cst (.int 4))) (.and (.cmp .eq (.var 3) (.ix (.var 1) (.cst (.int 3)))) (.cmp .eq (.call "_law_draw" (.cons (.var 0) (.cons (.cst (.int 2)) .nil))) (.cst (.int 1))))))
    (.cons (.asg (.nm 5) (.lst (.lit (.cons (.cst (.str [102, 105, 114, 115, 116])) (.cons (.cst (.str [105, 110, 116, 111])) (.cons (.cst (.str [112, 97, 115, 116])) .nil))))))
    (.cons (.asg (.nm 6) (.idx (.var 5) (.ix (.var 1) (.cst (.int 5)))))
    (.cons (.asg (.nm 7) (.ix (.var 5) (.bin .add (.var 6) (.call "_law_draw" (.cons (.var 0) (.cons (.bin .sub (.cst (.int 3)) (.var 6)) .nil))))))
    (.cons (.ret (.bin .add (.bin .add (.sl (.var 1) .none (.some (.cst (.int 2)))) (.tup (.cons (.var 2) (.cons (.var 3) (.cons (.var 4) (.cons (.var 7) .nil)))))) (.sl (.var 1) (.some (.cst (.int 6))) .none)))
    .nil))))))))⟩
def F_law : Fn := ⟨1, 12,
    (.cons (.asg (.nm 1) (.call "_law_pool" (.cons (.var 0) .nil)))
    (.cons (.asg (.nm 2) (.call "_law_ways" (.cons (.var 1) (.cons (.cst (.int 3)) .nil))))
    (.cons (.asg (.nm 3) (.call "_law_twin" (.cons (.var 1) (.cons (.var 2) .nil))))
    (.cons (.asg (.nm 4) (.lst (.lit (.cons (.var 2) (.cons (.var 3) (.cons (.call "_law_wider" (.cons (.var 1) (.cons (.var 2) .nil))) (.cons (.call "_law_wider" (.cons (.var 1) (.cons (.var 3) .nil))) .nil)))))))
    (.cons (.asg (.nm 5) (.lst (.comp [9] (.nm 9) (.sq (.ofv (.var 4))) .none (.lst (.comp [11] (.nm 11) (.sq (.ofv (.var 4))) .none (.call "rule_within" (.cons (.var 9) (.cons (.var 11) .nil))))))))
    (.cons (.asg (.nm 6) (.lst (.comp [9] (.nm 9) (.sq (.ofv (.var 4))) .none (.call "rule_form" (.cons (.var 9) .nil)))))
    (.cons (.fr (.nm 7) (.rng (.cst (.int 0)) (.cst (.int 4)))
    (.cons (.ife (.not (.ix (.ix (.var 5) (.var 7)) (.var 7)))
    (.cons (.ret (.cst (.bl false)))
    .nil)
    .nil)
    (.cons (.fr (.nm 8) (.rng (.cst (.int 0)) (.cst (.int 4)))
    (.cons (.ife (.cmp .ne (.and (.ix (.ix (.var 5) (.var 7)) (.var 8)) (.ix (.ix (.var 5) (.var 8)) (.var 7))) (.cmp .eq (.ix (.var 6) (.var 7)) (.ix (.var 6) (.var 8))))
    (.cons (.ret (.cst (.bl false)))
    .nil)
    .nil)
    (.cons (.ife (.cmp .ne (.isn (.call "parting_program" (.cons (.ix (.var 4) (.var 7)) (.cons (.ix (.var 4) (.var 8)) .nil)))) (.ix (.ix (.var 5) (.var 7)) (.var 8)))
    (.cons (.ret (.cst (.bl false)))
    .nil)
    .nil)
    (.cons (.fr (.nm 10) (.rng (.cst (.int 0)) (.cst (.int 4)))
    (.cons (.ife (.and (.ix (.ix (.var 5) (.var 7)) (.var 8)) (.and (.ix (.ix (.var 5) (.var 8)) (.var 10)) (.not (.ix (.ix (.var 5) (.var 7)) (.var 10)))))
    (.cons (.ret (.cst (.bl false)))
    .nil)
    .nil)
    .nil))
    .nil))))
    .nil)))
    (.cons (.ret (.and (.ix (.ix (.var 5) (.cst (.int 0))) (.cst (.int 2))) (.ix (.ix (.var 5) (.cst (.int 1))) (.cst (.int 3)))))
    .nil))))))))⟩
def P : Prg := ⟨[("is_integer", F_is_integer), ("is_ascending", F_is_ascending), ("is_word", F_is_word), ("is_rule", F_is_rule), ("need_rule", F_need_rule), ("rule_form", F_rule_form), ("need_comparable", F_need_comparable), ("form_within", F_form_within), ("rule_within", F_rule_within), ("parting_ops", F_parting_ops), ("parting_program", F_parting_program), ("_law_pool", F__law_pool), ("_law_draw", F__law_draw), ("_law_ways", F__law_ways), ("_law_twin", F__law_twin), ("_law_wider", F__law_wider), ("law", F_law)],
 [("SENDS", (.tup [(.str [119, 104, 111, 108, 101]), (.str [112, 97, 114, 116, 115]), (.str [102, 105, 108, 108, 101, 100])])), ("LOOKS", (.tup [(.str [105, 110, 116, 111]), (.str [112, 97, 115, 116]), (.str [102, 105, 114, 115, 116])])), ("STRAIGHT", (.tup [(.str [115, 116, 114, 97, 105, 103, 104, 116])])), ("LOOK_ORDER", (.tup [(.str [102, 105, 114, 115, 116]), (.str [105, 110, 116, 111]), (.str [112, 97, 115, 116])]))]⟩
theorem fn_is_integer : P.fn "is_integer" = some F_is_integer := by with_unfolding_all rfl
theorem fn_is_ascending : P.fn "is_ascending" = some F_is_ascending := by with_unfolding_all rfl
theorem fn_is_word : P.fn "is_word" = some F_is_word := by with_unfolding_all rfl
theorem fn_is_rule : P.fn "is_rule" = some F_is_rule := by with_unfolding_all rfl
theorem fn_need_rule : P.fn "need_rule" = some F_need_rule := by with_unfolding_all rfl
theorem fn_rule_form : P.fn "rule_form" = some F_rule_form := by with_unfolding_all rfl
theorem fn_need_comparable : P.fn "need_comparable" = some F_need_comparable := by with_unfolding_all rfl
theorem fn_form_within : P.fn "form_within" = some F_form_within := by with_unfolding_all rfl
theorem fn_rule_within : P.fn "rule_within" = some F_rule_within := by with_unfolding_all rfl
theorem fn_parting_ops : P.fn "parting_ops" = some F_parting_ops := by with_unfolding_all rfl
theorem fn_parting_program : P.fn "parting_program" = some F_parting_program := by with_unfolding_all rfl
theorem fn__law_pool : P.fn "_law_pool" = some F__law_pool := by with_unfolding_all rfl
theorem fn__law_draw : P.fn "_law_draw" = some F__law_draw := by with_unfolding_all rfl
theorem fn__law_ways : P.fn "_law_ways" = some F__law_ways := by with_unfolding_all rfl
theorem fn__law_twin : P.fn "_law_twin" = some F__law_twin := by with_unfolding_all rfl
theorem fn__law_wider : P.fn "_law_wider" = some F__law_wider := by with_unfolding_all rfl
theorem fn_law : P.fn "law" = some F_law := by with_unfolding_all rfl
theorem gl_SENDS : P.gl "SENDS" = some (.tup [(.str [119, 104, 111, 108, 101]), (.str [112, 97, 114, 116, 115]), (.str [102, 105, 108, 108, 101, 100])]) := by with_unfolding_all rfl
theorem gl_LOOKS : P.gl "LOOKS" = some (.tup [(.str [105, 110, 116, 111]), (.str [112, 97, 115, 116]), (.str [102, 105, 114, 115, 116])]) := by with_unfolding_all rfl
theorem gl_STRAIGHT : P.gl "STRAIGHT" = some (.tup [(.str [115, 116, 114, 97, 105, 103, 104, 116])]) := by with_unfolding_all rfl
theorem gl_LOOK_ORDER : P.gl "LOOK_ORDER" = some (.tup [(.str [102, 105, 114, 115, 116]), (.str [105, 110, 116, 111]), (.str [112, 97, 115, 116])]) := by with_unfolding_all rfl
/-! rules -/
def isIntD : D → Bool
  | .int _ => true
  | _ => false
theorem is_integer_at {w lv : Nat} {d : D} {s : S} (hlv : 1 ≤ lv) : callN P w lv "is_integer" [d] s = .ok (.bl (isIntD d)) s := by
  obtain ⟨n, rfl⟩ : ∃ n, lv = n + 1 := ⟨lv - 1, by omega⟩
  rw [callN_at fn_is_integer rfl]
  cases d <;> simp [F_is_integer, start, isIntD, norm_self]
/-- ascending numbers from lo on, below lim -/
def ascB (lim : Int) : Int → List D → Bool
  | _, [] => true
  | lo, .int i :: r => if i < lo ∨ lim ≤ i then false else ascB lim (i + 1) r
  | _, _ :: _ => false
theorem is_ascending_at {w lv : Nat} {ds : List D} {lim : Int} {s : S} (hlv : 2 ≤ lv) : callN P w lv "is_ascending" [.tup ds, .int lim] s = .ok (.bl (ascB lim 0 ds)) s := by
  obtain ⟨n, rfl⟩ : ∃ n, lv = n + 2 := ⟨lv - 2, by omega⟩
  rw [callN_at fn_is_ascending rfl]
  refine wp_eq (out_wp ?_)
  simp [F_is_ascending, start]
  refine post_seq (for_post (fun ds' η s' => s = s' ∧ ∃ lo o, η = [some (.tup ds), some (.int lim), some (.int lo), o] ∧ ascB lim lo ds' = ascB lim 0 ds) ?_ ?_ _ _ _ ⟨rfl, 0, none, rfl, rfl⟩)
  · rintro d ds' η _ ⟨rfl, lo, o, rfl, hI⟩
    refine ⟨_, rfl, ?_⟩
    replace hI := hI.symm
    simp [is_integer_at]
    cases d <;> simp [isIntD]
    case int i =>
      simp only [ascB] at hI
      by_cases h1 : i < lo
      · rw [if_pos (.inl h1)] at hI
        simp [h1, norm_self, hI]
      · by_cases h2 : lim ≤ i
        · rw [if_pos (.inr h2)] at hI
          simp [h1, h2, norm_self, hI]
        · rw [if_neg (fun h => h.elim h1 h2)] at hI
          simp [h1, h2]
          exact hI.symm
    all_goals (simp only [ascB] at hI; simp [norm_self, hI])
  · rintro η _ ⟨rfl, lo, o, rfl, hI⟩
    simp only [ascB] at hI
    simp [norm_self, ← hI]
/-- a text as codes -/
def codes (x : String) : List Nat := x.toList.map Char.toNat
structure Rule where
  width : Int
  lines : Int
  room : Int
  sends : List Nat
  eager : Bool
  look : List Nat
  kinds : List (List Int)
  acting : List Int
def tupI (l : List Int) : D := .tup (l.map .int)
def Rule.toD (r : Rule) : D := .tup [.int r.width, .int r.lines, .int r.room, .str r.sends, .bl r.eager, .str r.look, .tup (r.kinds.map tupI), tupI r.acting]
@[simp] theorem below_tupI {n : Nat} {l : List Int} : below n (tupI l) = true := by unfold tupI; rw [below_tup, belows_ints]
@[simp] theorem belows_tupI {n : Nat} : ∀ ks : List (List Int), belows n (ks.map tupI) = true
  | [] => rfl
  | k :: r => by rw [List.map_cons, belows_cons, below_tupI, belows_tupI r]; rfl
@[simp] theorem below_toD {n : Nat} {r : Rule} : below n r.toD = true := by simp [Rule.toD]
def asc (lim : Int) : Int → List Int → Bool
  | _, [] => true
  | lo, i :: r => decide (lo ≤ i) && decide (i < lim) && asc lim (i + 1) r
theorem ascB_map {lim : Int} : ∀ {l : List Int} {lo : Int}, ascB lim lo (l.map .int) = asc lim lo l
  | [], _ => rfl
  | i :: r, lo => by
    simp only [List.map_cons, ascB, asc]
    by_cases h : i < lo ∨ lim ≤ i
    · rw [if_pos h]
      rcases h with h | h
      · rw [decide_eq_false (by omega : ¬ lo ≤ i)]; rfl
      · rw [decide_eq_false (by omega : ¬ i < lim), Bool.and_false]; rfl
    · rw [if_neg h, ascB_map, decide_eq_true (by omega : lo ≤ i), decide_eq_true (by omega : i < lim)]; rfl
def wWhole : List Nat := [119, 104, 111, 108, 101]
def wParts : List Nat := [112, 97, 114, 116, 115]
def wFilled : List Nat := [102, 105, 108, 108, 101, 100]
def wInto : List Nat := [105, 110, 116, 111]
def wPast : List Nat := [112, 97, 115, 116]
def wFirst : List Nat := [102, 105, 114, 115, 116]
structure Rule.ok (r : Rule) : Prop where
  w : 1 ≤ r.width ∧ r.width ≤ 3
  l : 1 ≤ r.lines ∧ r.lines ≤ 3
  rm : 1 ≤ r.room ∧ r.room ≤ 3
  s : r.sends = wWhole ∨ r.sends = wParts ∨ r.sends = wFilled
  k : r.look = wInto ∨ r.look = wPast ∨ r.look = wFirst
  kl : r.kinds.length ≤ 3
  ks : ∀ k ∈ r.kinds, asc r.lines 0 k = true ∧ k ≠ []
  a : asc (r.width * r.lines) 0 r.acting = true
  al : r.acting.length ≤ 2
theorem is_word_at {w lv : Nat} {x : List Nat} {ws : List (List Nat)} {s : S} (hlv : 1 ≤ lv) : callN P w lv "is_word" [.str x, .tup (ws.map .str)] s = .ok (.bl (decide (x ∈ ws))) s := by
  obtain ⟨n, rfl⟩ : ∃ n, lv = n + 1 := ⟨lv - 1, by omega⟩
  rw [callN_at fn_is_word rfl]
  have h1 : ∀ ws : List (List Nat), okNs 40 (ws.map .str) = true := fun ws => by induction ws <;> simp_all
  have h2 : ∀ ws : List (List Nat), (ws.map D.str).any (fun y => eqv y (.str x)) = decide (x ∈ ws) := fun ws => by
    induction ws with
    | nil => rfl
    | cons a r ih => simp only [List.map_cons, List.any_cons, eqv_str, ih, List.mem_cons]; by_cases h : a = x <;> simp [h, eq_comm]; intro h2; exact absurd h2.symm h
  simp [F_is_word, start, mem_tup (ok_eq.trans okN_str) (h1 ws), h2, norm_self]
theorem is_rule_at {w lv : Nat} {r : Rule} {s : S} (hr : r.ok) (hlv : 3 ≤ lv) : callN P w lv "is_rule" [r.toD] s = .ok (.bl true) s := by
  obtain ⟨n, rfl⟩ : ∃ n, lv = n + 3 := ⟨lv - 3, by omega⟩
  rw [callN_at fn_is_rule rfl]
  refine wp_eq (out_wp ?_)
  simp [F_is_rule, start, Rule.toD]
  refine post_seq (for_post (fun ds' η s' => s = s' ∧ (∀ d ∈ ds', ∃ i : Int, d = .int i ∧ 1 ≤ i ∧ i ≤ 3) ∧ ∃ o, η = [some r.toD, some (.int r.width), some (.int r.lines), some (.int r.room), some (.str r.sends), some (.bl r.eager), some (.str r.look), some (.tup (r.kinds.map tupI)), some (tupI r.acting), o, none]) ?_ ?_ _ _ _ ?_)
  · rintro d ds' η _ ⟨rfl, hd, o, rfl⟩
    obtain ⟨i, rfl, h1, h2⟩ := hd d List.mem_cons_self
    refine ⟨_, rfl, ?_⟩
    have h1' : ¬ i < 1 := by omega
    have h2' : ¬ 3 < i := by omega
    simp [is_integer_at, isIntD, h1', h2']
    exact fun d hd' => hd d (List.mem_cons_of_mem _ hd')
  · rintro η _ ⟨rfl, _, o, rfl⟩
    have gS : P.gl "SENDS" = some (.tup ([wWhole, wParts, wFilled].map .str)) := gl_SENDS
    have gL : P.gl "LOOKS" = some (.tup ([wInto, wPast, wFirst].map .str)) := gl_LOOKS
    have hs : r.sends ∈ [wWhole, wParts, wFilled] := by rcases hr.s with h | h | h <;> rw [h] <;> simp
    have hk : r.look ∈ [wInto, wPast, wFirst] := by rcases hr.k with h | h | h <;> rw [h] <;> simp
    have hl : ¬ (3 : Int) < (r.kinds.length : Int) := by have := hr.kl; omega
    have wS : callN P w (n + 2) "is_word" [.str r.sends, .tup [.str wWhole, .str wParts, .str wFilled]] s = .ok (.bl true) s := by
      have := is_word_at (w := w) (lv := n + 2) (x := r.sends) (ws := [wWhole, wParts, wFilled]) (s := s) (by omega)
      rw [decide_eq_true hs] at this; exact this
    have wL : callN P w (n + 2) "is_word" [.str r.look, .tup [.str wInto, .str wPast, .str wFirst]] s = .ok (.bl true) s := by
      have := is_word_at (w := w) (lv := n + 2) (x := r.look) (ws := [wInto, wPast, wFirst]) (s := s) (by omega)
      rw [decide_eq_true hk] at this; exact this
    simp [gS, gL, wS, wL, hl]
    refine post_seq (for_post (fun ds' η s' => s = s' ∧ (∀ d ∈ ds', ∃ k : List Int, d = tupI k ∧ asc r.lines 0 k = true ∧ k ≠ []) ∧ ∃ o o', η = [some r.toD, some (.int r.width), some (.int r.lines), some (.int r.room), some (.str r.sends), some (.bl r.eager), some (.str r.look), some (.tup (r.kinds.map tupI)), some (tupI r.acting), o, o']) ?_ ?_ _ _ _ ?_)
    · rintro d ds' η _ ⟨rfl, hd, o, o', rfl⟩
      obtain ⟨k, rfl, h1, h2⟩ := hd d List.mem_cons_self
      refine ⟨_, rfl, ?_⟩
      have hk : okNs 39 (k.map .int) = true := okNs_ints k
      cases k with
      | nil => exact absurd rfl h2
      | cons a k =>
        have e1 := is_ascending_at (w := w) (lv := n + 2) (ds := (a :: k).map .int) (lim := r.lines) (s := s) (by omega)
        rw [ascB_map, h1] at e1
        rw [List.map_cons] at e1 hk
        simp [tupI, e1, eq_tup hk]
        exact fun d hd' => hd d (List.mem_cons_of_mem _ hd')
    · rintro η _ ⟨rfl, _, o, o', rfl⟩
      have e1 := is_ascending_at (w := w) (lv := n + 2) (ds := r.acting.map .int) (lim := r.width * r.lines) (s := s) (by omega)
      rw [ascB_map, hr.a] at e1
      have hm : bin .mul (.int r.width) (.int r.lines) s = .ok (.int (r.width * r.lines)) s := mull (by have := hr.w; omega) (by have := hr.w; omega)
      have hal : (r.acting.length : Int) ≤ 2 := by have := hr.al; omega
      simp [hm, tupI, e1, hal, norm_self]
    · exact ⟨rfl, fun d hd => by
        obtain ⟨k, hk, rfl⟩ := List.mem_map.mp hd
        exact ⟨k, rfl, hr.ks k hk⟩, _, _, rfl⟩
  · refine ⟨rfl, fun d hd => ?_, none, rfl⟩
    simp at hd
    rcases hd with rfl | rfl | rfl
    · exact ⟨_, rfl, hr.w⟩
    · exact ⟨_, rfl, hr.l⟩
    · exact ⟨_, rfl, hr.rm⟩
/-! the pool of laws k49 ff.: [great, small, k] at 4 -/
structure PC where
  G : List Int
  k : Nat
/-- the store: the script, the cells, the pool, then the rest -/
def psC (xs cs M : List Int) (q : PC) (tl : S) : S := .ro (xs.map .int) :: .lst (cs.map .int) :: .lst (q.G.map .int) :: .lst (M.map .int) :: .lst [.loc 2, .loc 3, .int q.k] :: tl
structure PC.ok (q : PC) (c : Nat) : Prop where
  G : q.G.length ≤ 63
  k : q.k ≤ c
/-- what stands behind the pool -/
def wfT (tl : S) : Prop := tl.all (belowO 0) = true
theorem wf_psC {xs cs M : List Int} {q : PC} {tl : S} (h : wfT tl) : wf (psC xs cs M q tl) := by
  unfold wf psC
  unfold wfT at h
  have h' : ∀ o ∈ tl, belowO (tl.length + 1 + 1 + 1 + 1 + 1) o = true := fun o ho => belowO_mono (Nat.zero_le _) (List.all_eq_true.mp h o ho)
  simp [belowO_lst, belowO_ro]
  exact h'
@[simp] theorem psC_len {xs cs M : List Int} {q : PC} {tl : S} : (psC xs cs M q tl).length = tl.length + 5 := rfl.trans rfl
@[simp] theorem psC_app {xs cs M : List Int} {q : PC} {tl u : S} : psC xs cs M q tl ++ u = psC xs cs M q (tl ++ u) := rfl.trans rfl
@[simp] theorem psC_lst {xs cs M : List Int} {q : PC} {tl : S} {n : Nat} : S.lst (psC xs cs M q tl) (n + 5) = S.lst tl n := rfl.trans rfl
@[simp] theorem psC_mlst {xs cs M : List Int} {q : PC} {tl : S} {n : Nat} : S.mlst (psC xs cs M q tl) (n + 5) = S.mlst tl n := rfl.trans rfl
@[simp] theorem psC_setS {xs cs M : List Int} {q : PC} {tl : S} {n : Nat} {o : O} : setS (psC xs cs M q tl) (n + 5) o = psC xs cs M q (setS tl n o) := rfl.trans rfl
theorem drawC {w lv : Nat} {xs cs M : List Int} {q : PC} {tl : S} {lim : Int} (hl : 0 < lim) (hl2 : lim < 1000000) {c : Nat} (hq : q.ok c) (hc : c < 1000000) (hw : wfT tl) (hlv : 1 ≤ lv := by omega) :
   ∃ d q', q'.ok (c + 1) ∧ 0 ≤ d ∧ d < lim ∧ callN P w lv "_law_draw" [.loc 4, .int lim] (psC xs cs M q tl) = .ok (.int d) (psC xs cs M q' tl) := by
  obtain ⟨n, rfl⟩ : ∃ n, lv = n + 1 := ⟨lv - 1, by omega⟩
  rw [callN_at fn__law_draw rfl]
  obtain ⟨G, k⟩ := q
  obtain ⟨hG, hk⟩ := hq
  simp only at hG hk
  have k1 : (-1000000000000000000 : Int) < (k : Int) + 1 := by omega
  have k2 : (k : Int) + 1 < 1000000000000000000 := by omega
  have l2 : lim < 1000000000000000000 := by omega
  have fin : ∀ {r : RS}, r.rt (fun d s' => ∃ (x : Int) (G' : List Int), G'.length ≤ 63 ∧ d = .int (x % lim) ∧ s' = psC xs cs M ⟨G', k + 1⟩ tl) →
      ∃ d q', q'.ok (c + 1) ∧ 0 ≤ d ∧ d < lim ∧ RS.out (psC xs cs M ⟨G, k⟩ tl) r = .ok (.int d) (psC xs cs M q' tl) := by
    rintro r ⟨_, _, rfl, x, G', h1, rfl, rfl⟩
    exact ⟨x % lim, ⟨G', k + 1⟩, ⟨h1, by simp only; omega⟩, Int.emod_nonneg _ (by omega), Int.emod_lt_of_pos _ hl, norm_same rfl (.inr (wf_psC hw)) rfl⟩
  refine fin ?_
  have m1 : ∀ x : Int, (-1000000000000000000 : Int) < x % 2147483647 ∧ x % 2147483647 < 1000000000000000000 := fun x => by omega
  have m2 : ∀ x : Int, (-1000000000000000000 : Int) < x % 65521 + 3 ∧ x % 65521 + 3 < 1000000000000000000 := fun x => by omega
  cases G with
  | nil =>
    cases M with
    | nil =>
      simp [F__law_draw, start, psC, bin_mod, mulr, mull, fdiv', hl, k1, k2, m1, m2]
      refine rt_ret ?_
      exact ⟨_, [], hG, rfl, rfl⟩
    | cons m M =>
      have ix : ∀ x : Int, ∃ z, ixGet (D.int m :: M.map D.int) (x % ((M.length : Int) + 1)) = some (.int z) := fun x => by
        have h1 : 0 ≤ x % ((M.length : Int) + 1) := Int.emod_nonneg _ (by omega)
        have h2 : x % ((M.length : Int) + 1) < (M.length : Int) + 1 := Int.emod_lt_of_pos _ (by omega)
        rw [ixGet_in h1, ← List.map_cons (f := D.int), List.getElem?_map, List.getElem?_eq_getElem (by simp; omega)]
        exact ⟨_, rfl⟩
      obtain ⟨z, hz⟩ := ix (7 * ((k : Int) + 1) + ((k : Int) + 1) / 5)
      simp [F__law_draw, start, psC, bin_mod, mulr, mull, fdiv', hl, k1, k2, m1, m2, hz]
      refine rt_ret ?_
      exact ⟨_, [], hG, rfl, rfl⟩
  | cons g G =>
    simp only [List.length_cons] at hG
    by_cases h0 : g / lim = 0
    · simp [F__law_draw, start, psC, bin_mod, mulr, mull, fdiv', hl, l2, k1, k2, m1, m2, h0, big_eq']
      rw [if_pos (by omega)]
      simp
      refine rt_ret ?_
      exact ⟨_, G, by omega, rfl, rfl⟩
    · simp [F__law_draw, start, psC, bin_mod, mulr, mull, fdiv', hl, l2, k1, k2, m1, m2, h0]
      refine rt_ret ?_
      exact ⟨_, g / lim :: G, by simp only [List.length_cons]; omega, rfl, rfl⟩
theorem poolC {w lv : Nat} {ns : List Int} (hn : ns.length ≤ 63) (hlv : 1 ≤ lv) : ∃ cs M G, (PC.mk G 0).ok 0 ∧ callN P w lv "_law_pool" [.loc 0] [.ro (ns.map .int)] = .ok (.loc 4) (psC ns cs M ⟨G, 0⟩ []) := by
  obtain ⟨n, rfl⟩ : ∃ n, lv = n + 1 := ⟨lv - 1, by omega⟩
  rw [callN_at fn__law_pool rfl]
  have key : (RS.out [.ro (ns.map .int)] (evB ⟨callN P w n, P.gl, w⟩ F__law_pool.body (start F__law_pool [.loc 0]) [.ro (ns.map .int)])).wp fun d s => ∃ cs M G, G.length ≤ 63 ∧ d = .loc 4 ∧ s = psC ns cs M ⟨G, 0⟩ [] := by
    refine out_wp ?_
    simp [F__law_pool, start]
    have e0 : ∀ (l : List Int) (f : Int → Int), l.map (fun i => D.int (f i)) = (l.map f).map D.int := fun l f => by simp
    rw [comp_all (g := D.int) (h := fun i => D.int (if i < 0 then -i else i)) (l := ns)]
    · simp only [List.nil_append, e0 ns (fun i => if i < 0 then -i else i)]
      generalize hcs : ns.map (fun i => if i < 0 then -i else i) = cs
      have hl : cs.length ≤ 63 := by rw [← hcs, List.length_map]; exact hn
      simp [alloc]
      rw [comp_map (g := D.int) (p := fun i => decide (1000000000000000000 ≤ i)) (h := D.int) (l := cs)]
      · simp
        rw [comp_map (g := D.int) (p := fun i => decide (i < 1000000000000000000)) (h := D.int) (l := cs)]
        · simp
          have hx : norm [O.ro (ns.map .int)] (.loc 4) (psC ns cs (cs.filter fun i => decide (i < 1000000000000000000)) ⟨cs.filter fun i => decide (1000000000000000000 ≤ i), 0⟩ []) = .ok (.loc 4) (psC ns cs (cs.filter fun i => decide (i < 1000000000000000000)) ⟨cs.filter fun i => decide (1000000000000000000 ≤ i), 0⟩ []) := by
            simp [norm, psC, belowO]
          have hx2 := wp_ok (Q := fun (d : D) s => ∃ cs M G, G.length ≤ 63 ∧ d = D.loc 4 ∧ s = psC ns cs M ⟨G, 0⟩ []) (d := D.loc 4) (s := psC ns cs (cs.filter fun i => decide (i < 1000000000000000000)) ⟨cs.filter fun i => decide (1000000000000000000 ≤ i), 0⟩ []) ⟨cs, _, _, Nat.le_trans (List.length_filter_le _ _) hl, rfl, rfl⟩
          rw [← hx] at hx2
          exact hx2
        · exact watched_one rfl
        · intro a _
          exact ⟨_, rfl, ⟨_, by simp; rfl, by simp⟩, fun _ => by simp⟩
      · exact watched_one rfl
      · intro a _
        exact ⟨_, rfl, ⟨_, by simp; rfl, by simp⟩, fun _ => by simp⟩
    · exact watched_one rfl
    · intro a _
      exact ⟨_, rfl, ⟨_, rfl, rfl⟩, by simp⟩
  obtain ⟨_, _, e, cs, M, G, h1, rfl, rfl⟩ := key
  exact ⟨cs, M, G, ⟨h1, Nat.le_refl _⟩, e⟩
theorem asc_mono {i j : Int} (h : i ≤ j) : ∀ {l : List Int} {lo : Int}, asc i lo l = true → asc j lo l = true
  | [], _, _ => rfl
  | a :: r, lo, g => by
    simp only [asc, Bool.and_eq_true, decide_eq_true_eq] at g ⊢
    exact ⟨⟨g.1.1, by omega⟩, asc_mono h g.2⟩
theorem asc_snoc {i : Int} : ∀ {l : List Int} {lo : Int}, asc i lo l = true → lo ≤ i → asc (i + 1) lo (l ++ [i]) = true
  | [], lo, _, h => by simp [asc]; omega
  | a :: r, lo, g, h => by
    simp only [asc, Bool.and_eq_true, decide_eq_true_eq, List.cons_append] at g ⊢
    exact ⟨⟨g.1.1, by omega⟩, asc_snoc g.2 (by omega)⟩
theorem asc_take {i : Int} : ∀ {l : List Int} {lo : Int} (n : Nat), asc i lo l = true → asc i lo (l.take n) = true
  | [], _, n, _ => by simp [asc]
  | a :: r, lo, 0, g => by simp [asc]
  | a :: r, lo, n + 1, g => by
    simp only [asc, Bool.and_eq_true, decide_eq_true_eq, List.take_succ_cons] at g ⊢
    exact ⟨g.1, asc_take n g.2⟩
/-- [x for x in range(n) if _law_draw(pool, lim) == 0] -/
theorem drawn_comp {w lv : Nat} {xs cs M : List Int} {tl : S} {η : Env} {j : Nat} {lim : Int} {m c : Nat} {q : PC} (hlv : 1 ≤ lv) (hl : 0 < lim) (hl2 : lim < 1000000) (hw : wfT tl) (hc : c + m < 1000000) (hq : q.ok c)
    (h0 : getV 0 (setV j (some (.int 0)) η) = some (.loc 4)) (h1 : ∀ d, getV 0 (setV j (some d) η) = some (.loc 4)) (h2 : ∀ d, getV j (setV j (some d) η) = some d) :
    (compLoop [] (.nm j) (evC ⟨callN P w lv, P.gl, w⟩ (.some (.cmp .eq (.call "_law_draw" (.cons (.var 0) (.cons (.cst (.int lim)) .nil))) (.cst (.int 0))))) (evE ⟨callN P w lv, P.gl, w⟩ (.var j)) η (nums 0 m) [] (psC xs cs M q tl)).wp
      fun ys s => ∃ (l : List Int) (q' : PC), ys = l.map .int ∧ asc m 0 l = true ∧ q'.ok (c + m) ∧ s = psC xs cs M q' tl := by
  have key := comp_inv (W := []) (t := .nm j) (c := evC ⟨callN P w lv, P.gl, w⟩ (.some (.cmp .eq (.call "_law_draw" (.cons (.var 0) (.cons (.cst (.int lim)) .nil))) (.cst (.int 0))))) (x := evE ⟨callN P w lv, P.gl, w⟩ (.var j)) (η := η)
    (fun ds acc s => ∃ (i k : Nat) (l : List Int) (q' : PC), ds = nums i k ∧ i + k = m ∧ acc = l.map .int ∧ asc i 0 l = true ∧ q'.ok (c + i) ∧ s = psC xs cs M q' tl) ?_ (nums 0 m) [] (psC xs cs M q tl) ⟨0, m, [], q, rfl, Nat.zero_add m, rfl, rfl, hq, rfl⟩
  · obtain ⟨ys, s, e, i, k, l, q', h3, h4, h5, h6, h7, h8⟩ := key
    have := nums_nil h3
    subst this
    have : i = m := by omega
    subst this
    exact ⟨ys, s, e, l, q', h5, h6, h7, h8⟩
  · rintro d ds acc s ⟨i, k, l, q', h3, h4, rfl, h6, h7, rfl⟩
    obtain ⟨k', rfl, rfl, rfl⟩ := nums_inv h3
    obtain ⟨v, q2, hq2, hv0, hv1, e⟩ := drawC (w := w) (lv := lv) (xs := xs) (cs := cs) (M := M) (tl := tl) hl hl2 h7 (by omega) hw
    refine ⟨_, rfl, ?_⟩
    refine ⟨.bl (decide (v = 0)), psC xs cs M q2 tl, decide (v = 0), ?_, rfl, ?_⟩
    · simp [h1, e]
    · by_cases hv : v = 0
      · rw [if_pos (decide_eq_true hv)]
        refine ⟨.int i, psC xs cs M q2 tl, by simp [h2], rfl, i + 1, k', l ++ [(i : Int)], q2, rfl, by omega, by simp, asc_snoc h6 (by omega), hq2, rfl⟩
      · rw [if_neg (by simp [hv])]
        exact ⟨rfl, i + 1, k', l, q2, rfl, by omega, rfl, asc_mono (by omega) h6, hq2, rfl⟩
theorem fold_w : [119, 104, 111, 108, 101] = wWhole ∧ [112, 97, 114, 116, 115] = wParts ∧ [102, 105, 108, 108, 101, 100] = wFilled ∧ [105, 110, 116, 111] = wInto ∧ [112, 97, 115, 116] = wPast ∧ [102, 105, 114, 115, 116] = wFirst := ⟨rfl, rfl, rfl, rfl, rfl, rfl⟩
def sendsOf (d : Int) : List Nat := if d = 0 then wWhole else if d = 1 then wParts else wFilled
def looksOf (d : Int) : List Nat := if d = 0 then wInto else if d = 1 then wPast else wFirst
theorem sends_ix {d : Int} (h0 : 0 ≤ d) (h1 : d < 3) : ixGet [D.str wWhole, D.str wParts, D.str wFilled] d = some (.str (sendsOf d)) := by
  have : d = 0 ∨ d = 1 ∨ d = 2 := by omega
  rcases this with rfl | rfl | rfl <;> simp [sendsOf]
theorem looks_ix {d : Int} (h0 : 0 ≤ d) (h1 : d < 3) : ixGet [D.str wInto, D.str wPast, D.str wFirst] d = some (.str (looksOf d)) := by
  have : d = 0 ∨ d = 1 ∨ d = 2 := by omega
  rcases this with rfl | rfl | rfl <;> simp [looksOf]
theorem sends_ok (d : Int) : sendsOf d = wWhole ∨ sendsOf d = wParts ∨ sendsOf d = wFilled := by
  unfold sendsOf; split; exact .inl rfl; split; exact .inr (.inl rfl); exact .inr (.inr rfl)
theorem looks_ok (d : Int) : looksOf d = wInto ∨ looksOf d = wPast ∨ looksOf d = wFirst := by
  unfold looksOf; split; exact .inl rfl; split; exact .inr (.inl rfl); exact .inr (.inr rfl)
theorem waysC {w lv : Nat} {xs cs M : List Int} {q : PC} {tl : S} {wd : Int} {c : Nat} (hwd : 0 < wd) (hwd2 : wd ≤ 3) (hq : q.ok c) (hc : c < 900000) (hw : wfT tl) (hlv : 2 ≤ lv) :
    ∃ (r : Rule) (q' : PC), r.ok ∧ r.width ≤ wd ∧ q'.ok (c + 100) ∧ callN P w lv "_law_ways" [.loc 4, .int wd] (psC xs cs M q tl) = .ok r.toD (psC xs cs M q' tl) := by
  obtain ⟨n, rfl⟩ : ∃ n, lv = n + 2 := ⟨lv - 2, by omega⟩
  rw [callN_at fn__law_ways rfl]
  have key : (RS.out (psC xs cs M q tl) (evB ⟨callN P w (n + 1), P.gl, w⟩ F__law_ways.body (start F__law_ways [.loc 4, .int wd]) (psC xs cs M q tl))).wp fun d s => ∃ (r : Rule) (q' : PC), r.ok ∧ r.width ≤ wd ∧ q'.ok (c + 100) ∧ d = r.toD ∧ s = psC xs cs M q' tl := by
    refine out_wp ?_
    obtain ⟨d1, q1, hq1, a1, b1, e1⟩ := drawC (w := w) (lv := n + 1) (xs := xs) (cs := cs) (M := M) (tl := tl) hwd (by omega) hq (by omega) hw
    obtain ⟨d2, q2, hq2, a2, b2, e2⟩ := drawC (w := w) (lv := n + 1) (xs := xs) (cs := cs) (M := M) (tl := tl) (lim := 3) (by omega) (by omega) hq1 (by omega) hw
    obtain ⟨d3, q3, hq3, a3, b3, e3⟩ := drawC (w := w) (lv := n + 1) (xs := xs) (cs := cs) (M := M) (tl := tl) (lim := 3) (by omega) (by omega) hq2 (by omega) hw
    have hw1 : wfT (tl ++ [.lst [.str wWhole, .str wParts, .str wFilled]]) := by unfold wfT at hw ⊢; simp [hw]
    obtain ⟨d4, q4, hq4, a4, b4, e4⟩ := drawC (w := w) (lv := n + 1) (xs := xs) (cs := cs) (M := M) (lim := 3) (by omega) (by omega) hq3 (by omega) hw1
    obtain ⟨d5, q5, hq5, a5, b5, e5⟩ := drawC (w := w) (lv := n + 1) (xs := xs) (cs := cs) (M := M) (lim := 3) (by omega) (by omega) hq4 (by omega) hw1
    have hw2 : wfT (tl ++ [.lst [.str wWhole, .str wParts, .str wFilled], .lst [.str wInto, .str wPast, .str wFirst]]) := by unfold wfT at hw ⊢; simp [hw]
    obtain ⟨d6, q6, hq6, a6, b6, e6⟩ := drawC (w := w) (lv := n + 1) (xs := xs) (cs := cs) (M := M) (lim := 3) (by omega) (by omega) hq5 (by omega) hw2
    have hw3 : wfT (tl ++ [.lst [.str wWhole, .str wParts, .str wFilled], .lst [.str wInto, .str wPast, .str wFirst], .lst []]) := by unfold wfT at hw ⊢; simp [hw]
    obtain ⟨d7, q7, hq7, a7, b7, e7⟩ := drawC (w := w) (lv := n + 1) (xs := xs) (cs := cs) (M := M) (lim := 4) (by omega) (by omega) hq6 (by omega) hw3
    obtain ⟨m7, rfl⟩ : ∃ m : Nat, d7 = m := ⟨d7.toNat, by omega⟩
    obtain ⟨m1, rfl⟩ : ∃ m : Nat, d1 = m := ⟨d1.toNat, by omega⟩
    obtain ⟨m2, rfl⟩ : ∃ m : Nat, d2 = m := ⟨d2.toNat, by omega⟩
    have hr7 : rngOk 0 (m7 : Int) = true := rng_ok (by omega) (by omega) (by omega) (by omega)
    have hr2 : rngOk 0 (1 + (m2 : Int)) = true := rng_ok (by omega) (by omega) (by omega) (by omega)
    have hn2 : range 0 (1 + (m2 : Int)) = nums 0 (m2 + 1) := by rw [← range_nums]; congr 1; omega
    have hr1 : rngOk 0 ((1 + (m1 : Int)) * (1 + (m2 : Int))) = true := by
      have : m1 ≤ 2 := by omega
      have : m2 ≤ 2 := by omega
      have e : (1 + (m1 : Int)) * (1 + (m2 : Int)) = (((m1 + 1) * (m2 + 1) : Nat) : Int) := by push_cast; ac_rfl
      have : (m1 + 1) * (m2 + 1) ≤ 3 * 3 := Nat.mul_le_mul (by omega) (by omega)
      rw [e]
      exact rng_ok (by omega) (by omega) (by omega) (by omega)
    have hn1 : range 0 ((1 + (m1 : Int)) * (1 + (m2 : Int))) = nums 0 ((m1 + 1) * (m2 + 1)) := by
      rw [← range_nums]; congr 1; push_cast; ac_rfl
    refine post_gen fun K hK => ?_
    simp [F__law_ways, start, e1, e2, e3, alloc, fold_w, e4, e5, e6, e7, lst_at, lst_end, sends_ix a4 b4, looks_ix a6 b6, hr7, range_nums]
    refine post_seq (for_post (fun ds η s => ∃ (i k : Nat) (ks : List (List Int)) (q' : PC) (T : S) (o9 o11 : Option D), ds = nums i k ∧ i + k = m7 ∧ ks.length = i ∧ (∀ x ∈ ks, asc (1 + (m2 : Int)) 0 x = true ∧ x ≠ []) ∧ q'.ok (c + 7 + 4 * i) ∧ wfT T ∧
        S.mlst T (tl.length + 2) = some (ks.map tupI) ∧ T.take tl.length = tl ∧ s = psC xs cs M q' T ∧
        η = [some (D.loc 4), some (D.int wd), some (D.int (1 + (m1 : Int))), some (D.int (1 + (m2 : Int))), some (D.int (1 + d3)), some (D.str (sendsOf d4)), some (D.bl (decide (d5 = 1))), some (D.str (looksOf d6)), some (D.loc (List.length tl + 2 + 5)), o9, none, o11, none, none]) ?_ ?_ _ _ _ ?_)
    · rintro d ds η s ⟨i, k, ks, q', T, o9, o11, h1, h2, h3, h4, h5, h6, h7, h8, rfl, rfl⟩
      obtain ⟨k', rfl, rfl, rfl⟩ := nums_inv h1
      refine ⟨_, rfl, ?_⟩
      obtain ⟨ys, s', e, l, q2, rfl, g1, g2, rfl⟩ := drawn_comp (w := w) (lv := n + 1) (xs := xs) (cs := cs) (M := M) (tl := T) (j := 13) (lim := 2) (m := m2 + 1) (c := c + 7 + 4 * i)
        (η := [some (D.loc 4), some (D.int wd), some (D.int (1 + (m1 : Int))), some (D.int (1 + (m2 : Int))), some (D.int (1 + d3)), some (D.str (sendsOf d4)), some (D.bl (decide (d5 = 1))), some (D.str (looksOf d6)), some (D.loc (List.length tl + 2 + 5)), some (.int i), none, o11, none, none])
        (by omega) (by omega) (by omega) h6 (by omega) h5 rfl (fun _ => rfl) (fun _ => rfl)
      have lt := mlst_lt h7
      have hm : ∀ u, S.mlst (T ++ u) (tl.length + 2) = some (ks.map tupI) := fun u => by rw [mlst_app lt]; exact h7
      have hs : ∀ u o, setS (T ++ u) (tl.length + 2) o = setS T (tl.length + 2) o ++ u := fun u o => setS_app lt
      have hb : ks.length < big := by rw [big_eq']; omega
      refine post_gen fun K2 hK2 => ?_
      cases l with
      | cons a l =>
        have hw' : wfT (setS T (tl.length + 2) (.lst (ks.map tupI ++ [tupI (a :: l)])) ++ [.lst ((a :: l).map .int)]) := by
          unfold wfT at h6 ⊢
          rw [List.all_append, setS_all h6 (by simp)]
          simp
        simp [hr2, hn2, e, alloc, lst_end, hm, hs, hb]
        subst hK2
        refine ⟨rfl, i + 1, k', ks ++ [a :: l], q2, _, _, _, rfl, by omega, by simp [h3], ?_, ?_, hw', ?_, ?_, rfl, rfl⟩
        · intro x hx
          rcases List.mem_append.mp hx with hx | hx
          · exact h4 x hx
          · rw [List.mem_singleton.mp hx]
            exact ⟨by have := g1; push_cast at this; rw [Int.add_comm] at this; exact this, fun z => nomatch z⟩
        · exact ⟨g2.G, by have := g2.k; omega⟩
        · rw [mlst_app (by simpa using lt), mlst_set lt]; simp [tupI]
        · rw [List.take_append_of_le_length (by simp; omega), setS_take (by omega)]; exact h8
      | nil =>
        have hw1 : wfT (T ++ [.lst []]) := by unfold wfT at h6 ⊢; simp [h6]
        obtain ⟨v, q3, hq3, v0, v1, ev⟩ := drawC (w := w) (lv := n + 1) (xs := xs) (cs := cs) (M := M) (lim := 1 + (m2 : Int)) (by omega) (by omega) g2 (by omega) hw1
        have hw' : wfT (setS T (tl.length + 2) (.lst (ks.map tupI ++ [tupI [v]])) ++ [.lst [], .lst [.int v]]) := by
          unfold wfT at h6 ⊢
          rw [List.all_append, setS_all h6 (by simp)]
          simp
        have lt2 : S.lst (T ++ [O.lst [], O.lst [D.int v]]) (T.length + 1) = some [.int v] := lst_at
        simp [hr2, hn2, e, alloc, lst_end, hm, hs, hb, ev, lt2]
        subst hK2
        refine ⟨rfl, i + 1, k', ks ++ [[v]], q3, _, _, _, rfl, by omega, by simp [h3], ?_, ?_, hw', ?_, ?_, rfl, rfl⟩
        · intro x hx
          rcases List.mem_append.mp hx with hx | hx
          · exact h4 x hx
          · rw [List.mem_singleton.mp hx]
            exact ⟨by simp [asc]; omega, fun z => nomatch z⟩
        · exact ⟨hq3.G, by have := hq3.k; omega⟩
        · rw [mlst_app (by simpa using lt), mlst_set lt]; simp [tupI]
        · rw [List.take_append_of_le_length (by simp; omega), setS_take (by omega)]; exact h8
    · rintro η s ⟨i, k, ks, q', T, o9, o11, h1, h2, h3, h4, h5, h6, h7, h8, rfl, rfl⟩
      have := nums_nil h1
      subst this
      have hi : i = m7 := by omega
      subst hi
      dsimp only
      have hmm : (m1 + 1) * (m2 + 1) ≤ 3 * 3 := Nat.mul_le_mul (by omega) (by omega)
      generalize hgm : (m1 + 1) * (m2 + 1) = mm at hn1 hmm
      have hh := drawn_comp (w := w) (lv := n + 1) (xs := xs) (cs := cs) (M := M) (tl := T) (j := 12) (lim := 3) (m := mm) (c := c + 7 + 4 * i)
        (η := [some (D.loc 4), some (D.int wd), some (D.int (1 + (m1 : Int))), some (D.int (1 + (m2 : Int))), some (D.int (1 + d3)), some (D.str (sendsOf d4)), some (D.bl (decide (d5 = 1))), some (D.str (looksOf d6)), some (D.loc (List.length tl + 2 + 5)), o9, none, o11, none, none])
        (by omega) (by omega) (by omega) h6 (by omega) h5 rfl (fun _ => rfl) (fun _ => rfl)
      generalize hB : evB _ _ _ _ = r
      obtain ⟨ys, s', e, l, qz, rfl, g1, g2, rfl⟩ := hh
      rw [← hB]
      have lt := mlst_lt h7
      have hm : ∀ u, S.lst (T ++ u) (tl.length + 2) = some (ks.map tupI) := fun u => by rw [lst_app lt]; exact mlst_lst h7
      have lt2 : S.lst (T ++ [O.lst (l.map .int), O.lst ((l.map D.int).take 2)]) (T.length + 1) = some ((l.map D.int).take 2) := lst_at
      have hmul : ∀ s, bin .mul (.int (1 + (m1 : Int))) (.int (1 + (m2 : Int))) s = .ok (.int ((1 + (m1 : Int)) * (1 + (m2 : Int)))) s := fun s => mull (by omega) (by omega)
      simp [hmul, hr1, hn1, e, alloc, lst_end, hm, lt2]
      subst hK
      have eT : T = tl ++ T.drop tl.length := by conv => lhs; rw [← List.take_append_drop tl.length T, h8]
      have hx : norm (psC xs cs M q tl) (Rule.toD ⟨1 + m1, 1 + m2, 1 + d3, sendsOf d4, decide (d5 = 1), looksOf d6, ks, l.take 2⟩) (psC xs cs M qz (T ++ [O.lst (List.map D.int l), O.lst (List.take 2 (List.map D.int l))])) =
          .ok (Rule.toD ⟨1 + m1, 1 + m2, 1 + d3, sendsOf d4, decide (d5 = 1), looksOf d6, ks, l.take 2⟩) (psC xs cs M qz tl) := by
        have e9 : psC xs cs M qz (T ++ [O.lst (List.map D.int l), O.lst (List.take 2 (List.map D.int l))]) = psC xs cs M qz tl ++ (T.drop tl.length ++ [O.lst (List.map D.int l), O.lst (List.take 2 (List.map D.int l))]) := by
          rw [psC_app, ← List.append_assoc, ← eT]
        rw [e9]
        exact norm_drop rfl (.inr (wf_psC hw)) below_toD
      have hm : (mm : Int) = (1 + (m1 : Int)) * (1 + (m2 : Int)) := by rw [← hgm]; push_cast; ac_rfl
      rw [hm] at g1
      have fin := wp_ok (Q := fun d s => ∃ (r : Rule) (q' : PC), r.ok ∧ r.width ≤ wd ∧ q'.ok (c + 100) ∧ d = r.toD ∧ s = psC xs cs M q' tl) (d := Rule.toD ⟨1 + m1, 1 + m2, 1 + d3, sendsOf d4, decide (d5 = 1), looksOf d6, ks, l.take 2⟩) (s := psC xs cs M qz tl)
        ⟨_, qz, ⟨by simp only; omega, by simp only; omega, by simp only; omega, sends_ok d4, looks_ok d6, by simp only; omega, h4, asc_take 2 g1, by simp only [List.length_take]; omega⟩, by simp only; omega, ⟨g2.G, by have := g2.k; omega⟩, rfl, rfl⟩
      rw [← hx] at fin
      have e8 : List.take 2 (List.map D.int l) = (l.take 2).map D.int := by rw [List.map_take]
      rw [e8] at fin ⊢
      exact fin
    · refine ⟨0, m7, [], q7, _, none, none, rfl, Nat.zero_add _, rfl, fun _ h => (List.not_mem_nil h).elim, ⟨hq7.G, by have := hq7.k; omega⟩, hw3, mlst_at, by simp, rfl, rfl⟩
  obtain ⟨_, _, e, r, q', h1, h2, h3, rfl, rfl⟩ := key
  exact ⟨r, q', h1, h2, h3, e⟩
theorem twinC {w lv : Nat} {xs cs M : List Int} {q : PC} {tl : S} {r : Rule} {c : Nat} (hr : r.ok) (hq : q.ok c) (hc : c < 900000) (hw : wfT tl) (hlv : 2 ≤ lv) :
    ∃ (r' : Rule) (q' : PC), r'.ok ∧ r'.width = r.width ∧ r'.lines = r.lines ∧ r'.kinds = r.kinds ∧ r'.acting = r.acting ∧ q'.ok (c + 100) ∧ callN P w lv "_law_twin" [.loc 4, r.toD] (psC xs cs M q tl) = .ok r'.toD (psC xs cs M q' tl) := by
  obtain ⟨n, rfl⟩ : ∃ n, lv = n + 2 := ⟨lv - 2, by omega⟩
  rw [callN_at fn__law_twin rfl]
  have key : (RS.out (psC xs cs M q tl) (evB ⟨callN P w (n + 1), P.gl, w⟩ F__law_twin.body (start F__law_twin [.loc 4, r.toD]) (psC xs cs M q tl))).wp fun d s => ∃ (r' : Rule) (q' : PC), r'.ok ∧ r'.width = r.width ∧ r'.lines = r.lines ∧ r'.kinds = r.kinds ∧ r'.acting = r.acting ∧ q'.ok (c + 100) ∧ d = r'.toD ∧ s = psC xs cs M q' tl := by
    refine out_wp ?_
    obtain ⟨d3, q3, hq3, a3, b3, e3⟩ := drawC (w := w) (lv := n + 1) (xs := xs) (cs := cs) (M := M) (tl := tl) (lim := 3) (by omega) (by omega) hq (by omega) hw
    have hw1 : wfT (tl ++ [.lst [.str wWhole, .str wParts, .str wFilled]]) := by unfold wfT at hw ⊢; simp [hw]
    obtain ⟨d4, q4, hq4, a4, b4, e4⟩ := drawC (w := w) (lv := n + 1) (xs := xs) (cs := cs) (M := M) (lim := 3) (by omega) (by omega) hq3 (by omega) hw1
    obtain ⟨d5, q5, hq5, a5, b5, e5⟩ := drawC (w := w) (lv := n + 1) (xs := xs) (cs := cs) (M := M) (lim := 2) (by omega) (by omega) hq4 (by omega) hw1
    have hw2 : wfT (tl ++ [.lst [.str wWhole, .str wParts, .str wFilled], .lst [.str wInto, .str wPast, .str wFirst]]) := by unfold wfT at hw ⊢; simp [hw]
    obtain ⟨d6, q6, hq6, a6, b6, e6⟩ := drawC (w := w) (lv := n + 1) (xs := xs) (cs := cs) (M := M) (lim := 3) (by omega) (by omega) hq5 (by omega) hw2
    have hx : norm (psC xs cs M q tl) (Rule.toD ⟨r.width, r.lines, 1 + d3, sendsOf d4, decide (d5 = 1), looksOf d6, r.kinds, r.acting⟩) (psC xs cs M q6 (tl ++ [.lst [.str wWhole, .str wParts, .str wFilled], .lst [.str wInto, .str wPast, .str wFirst]])) =
        .ok (Rule.toD ⟨r.width, r.lines, 1 + d3, sendsOf d4, decide (d5 = 1), looksOf d6, r.kinds, r.acting⟩) (psC xs cs M q6 tl) := by
      rw [← psC_app]
      exact norm_drop rfl (.inr (wf_psC hw)) below_toD
    have fin := wp_ok (Q := fun d s => ∃ (r' : Rule) (q' : PC), r'.ok ∧ r'.width = r.width ∧ r'.lines = r.lines ∧ r'.kinds = r.kinds ∧ r'.acting = r.acting ∧ q'.ok (c + 100) ∧ d = r'.toD ∧ s = psC xs cs M q' tl)
      (d := Rule.toD ⟨r.width, r.lines, 1 + d3, sendsOf d4, decide (d5 = 1), looksOf d6, r.kinds, r.acting⟩) (s := psC xs cs M q6 tl)
      ⟨⟨r.width, r.lines, 1 + d3, sendsOf d4, decide (d5 = 1), looksOf d6, r.kinds, r.acting⟩, q6, ⟨hr.w, hr.l, by simp only; omega, sends_ok d4, looks_ok d6, hr.kl, hr.ks, hr.a, hr.al⟩, rfl, rfl, rfl, rfl, ⟨hq6.G, by have := hq6.k; omega⟩, rfl, rfl⟩
    rw [← hx] at fin
    refine post_gen fun K hK => ?_
    simp [F__law_twin, start, Rule.toD, e3, alloc, fold_w, e4, e5, e6, lst_at, lst_end, sends_ix a4 b4, looks_ix a6 b6, bin_tup, big_eq']
    subst hK
    exact fin
  obtain ⟨_, _, e, r', q', h1, h2, h3, h4, h5, h6, rfl, rfl⟩ := key
  exact ⟨r', q', h1, h2, h3, h4, h5, h6, e⟩
theorem need_rule_at {w lv : Nat} {r : Rule} {s : S} (hr : r.ok) (hlv : 4 ≤ lv) : callN P w lv "need_rule" [r.toD] s = .ok .non s := by
  obtain ⟨n, rfl⟩ : ∃ n, lv = n + 1 := ⟨lv - 1, by omega⟩
  rw [callN_at fn_need_rule rfl]
  have := is_rule_at (w := w) (lv := n) (s := s) hr (by omega)
  simp [F_need_rule, start, this, norm_self]
def wStraight : List Nat := [115, 116, 114, 97, 105, 103, 104, 116]
/-- a rule's form -/
def Rule.form (r : Rule) : D :=
  if r.width = 1 ∧ r.eager = true then .tup [.str wStraight]
  else .tup [.int (if r.room ≤ (if 2 ≤ r.lines then 2 else r.lines) then r.room else (if 2 ≤ r.lines then 2 else r.lines)), .str (if r.width = 1 then wWhole else r.sends), .bl (r.eager && decide ((if r.width = 1 then wWhole else r.sends) ≠ wParts)), .str r.look]
@[simp] theorem below_form {n : Nat} {r : Rule} : below n r.form = true := by
  unfold Rule.form
  split <;> simp
theorem rule_form_at {w lv : Nat} {r : Rule} {s : S} (hr : r.ok) (hlv : 5 ≤ lv) : callN P w lv "rule_form" [r.toD] s = .ok r.form s := by
  obtain ⟨n, rfl⟩ : ∃ n, lv = n + 1 := ⟨lv - 1, by omega⟩
  rw [callN_at fn_rule_form rfl]
  have e1 := need_rule_at (w := w) (lv := n) (s := s) hr (by omega)
  have gS : P.gl "STRAIGHT" = some (.tup [.str wStraight]) := gl_STRAIGHT
  obtain ⟨wd, ln, rm, se, ea, lk, ks, ac⟩ := r
  simp only [Rule.toD] at e1 ⊢
  refine wp_eq (out_wp ?_)
  refine post_gen fun K hK => ?_
  by_cases h1 : wd = 1
  · subst h1
    cases ea with
    | true =>
      simp [F_rule_form, start, e1, gS]
      subst hK
      simp [norm_self, Rule.form]
    | false =>
      simp [F_rule_form, start, e1, gS]
      subst hK
      simp [norm_self, Rule.form, wWhole, wParts]
  · cases ea with
    | true =>
      simp [F_rule_form, start, e1, h1, gS]
      subst hK
      simp [norm_self, Rule.form, wWhole, wParts, h1]
    | false =>
      simp [F_rule_form, start, e1, h1, gS]
      subst hK
      simp [norm_self, Rule.form, wWhole, wParts, h1]
/-! forms, as data -/
inductive Form where
  | st
  | mk (m : Int) (se : List Nat) (ea : Bool) (lk : List Nat)
def Form.toD : Form → D
  | .st => .tup [.str wStraight]
  | .mk m se ea lk => .tup [.int m, .str se, .bl ea, .str lk]
def Rule.frm (r : Rule) : Form :=
  if r.width = 1 ∧ r.eager = true then .st
  else .mk (if r.room ≤ (if 2 ≤ r.lines then 2 else r.lines) then r.room else (if 2 ≤ r.lines then 2 else r.lines)) (if r.width = 1 then wWhole else r.sends) (r.eager && decide ((if r.width = 1 then wWhole else r.sends) ≠ wParts)) r.look
theorem frm_toD (r : Rule) : r.frm.toD = r.form := by
  unfold Rule.frm Rule.form
  split <;> rfl
def rank (lk : List Nat) : Int := if lk = wFirst then 0 else if lk = wInto then 1 else 2
def lookOk (lk : List Nat) : Prop := lk = wInto ∨ lk = wPast ∨ lk = wFirst
theorem rank_list {lk : List Nat} (h : lookOk lk) : ([D.str wFirst, D.str wInto, D.str wPast].findIdx? fun e => eqv e (.str lk)).map (fun j => D.int (j : Nat)) = some (.int (rank lk)) := by
  rcases h with rfl | rfl | rfl <;> rfl
theorem rank_tup {lk : List Nat} (h : lookOk lk) : idxT (.tup [.str wFirst, .str wInto, .str wPast]) (.str lk) = some (.int (rank lk)) := by
  rcases h with rfl | rfl | rfl <;> rfl
def Form.within : Form → Form → Bool
  | .st, _ => true
  | .mk _ _ _ _, .st => false
  | .mk m se ea lk, .mk m' se' ea' lk' => decide (m ≤ m') && (decide (se = wWhole) || decide (se = se')) && !(ea' && !ea) && decide (rank lk ≤ rank lk')
def Form.lk : Form → Prop
  | .st => True
  | .mk _ _ _ lk => lookOk lk
theorem form_within_at {w lv : Nat} {f g : Form} {s : S} (hf : f.lk) (hg : g.lk) (hlv : 1 ≤ lv) : callN P w lv "form_within" [f.toD, g.toD] s = .ok (.bl (f.within g)) s := by
  obtain ⟨n, rfl⟩ : ∃ n, lv = n + 1 := ⟨lv - 1, by omega⟩
  rw [callN_at fn_form_within rfl]
  have gS : P.gl "STRAIGHT" = some (.tup [.str wStraight]) := gl_STRAIGHT
  have gL : P.gl "LOOK_ORDER" = some (.tup [.str wFirst, .str wInto, .str wPast]) := gl_LOOK_ORDER
  refine wp_eq (out_wp ?_)
  refine post_gen fun K hK => ?_
  cases f with
  | st =>
    simp [F_form_within, start, Form.toD, gS, eq_tup]
    subst hK
    simp [norm_self, Form.within]
  | mk m se ea lk =>
    cases g with
    | st =>
      simp [F_form_within, start, Form.toD, gS, eq_tup]
      subst hK
      simp [norm_self, Form.within]
    | mk m' se' ea' lk' =>
      by_cases h1 : m' < m
      · simp [F_form_within, start, Form.toD, gS, eq_tup, h1]
        subst hK
        simp [norm_self, Form.within, Int.not_le.mpr h1]
      · have hm : ∀ ws : List (List Nat), mem s (.str se) (.tup (ws.map .str)) = some (decide (se ∈ ws)) := fun ws => by
          have a1 : ∀ ws : List (List Nat), okNs 40 (ws.map .str) = true := fun ws => by induction ws <;> simp_all
          have a2 : ∀ ws : List (List Nat), (ws.map D.str).any (fun y => eqv y (.str se)) = decide (se ∈ ws) := fun ws => by
            induction ws with
            | nil => rfl
            | cons a r ih => simp only [List.map_cons, List.any_cons, eqv_str, ih, List.mem_cons]; by_cases h : a = se <;> simp [h, eq_comm]; intro h2; exact absurd h2.symm h
          rw [mem_tup (ok_eq.trans okN_str) (a1 ws), a2]
        have hm2 := hm [wWhole, se']
        simp only [List.map_cons, List.map_nil] at hm2
        have e1 := rank_tup hf
        have e2 := rank_tup hg
        have m1 : m ≤ m' := by omega
        by_cases h2 : se ∈ [wWhole, se']
        · have h2' : se = wWhole ∨ se = se' := by simpa using h2
          rw [decide_eq_true h2] at hm2
          have h3 : (decide (se = wWhole) || decide (se = se')) = true := by simpa using h2'
          cases ea <;> cases ea' <;>
          (simp [F_form_within, start, Form.toD, gS, gL, eq_tup, h1, fold_w, hm2, e1, e2]
           subst hK
           simp [norm_self, Form.within, m1, h3, h2'])
        · have h2' : ¬ (se = wWhole ∨ se = se') := by simpa using h2
          rw [decide_eq_false h2] at hm2
          simp [F_form_within, start, Form.toD, gS, gL, eq_tup, h1, fold_w, hm2]
          subst hK
          have h3 : (decide (se = wWhole) || decide (se = se')) = false := by simpa using h2'
          simp [norm_self, Form.within, m1, h3]
theorem okNs_tupI {n : Nat} : ∀ ks : List (List Int), okNs (n + 1) (ks.map tupI) = true
  | [] => rfl
  | k :: r => by rw [List.map_cons, okNs_cons, okNs_tupI r]; unfold tupI; rw [okN_tup, okNs_ints]; rfl
theorem need_comparable_at {w lv : Nat} {r r' : Rule} {s : S} (hr : r.ok) (hr' : r'.ok) (h1 : r'.width = r.width) (h2 : r'.lines = r.lines) (h3 : r'.kinds = r.kinds) (h4 : r'.acting = r.acting) (hlv : 5 ≤ lv) : callN P w lv "need_comparable" [r.toD, r'.toD] s = .ok .non s := by
  obtain ⟨n, rfl⟩ : ∃ n, lv = n + 1 := ⟨lv - 1, by omega⟩
  rw [callN_at fn_need_comparable rfl]
  have e1 := need_rule_at (w := w) (lv := n) (s := s) hr (by omega)
  have e2 := need_rule_at (w := w) (lv := n) (s := s) hr' (by omega)
  simp only [Rule.toD, h1, h2, h3, h4] at e1 e2 ⊢
  have k1 : okNs 39 [D.int r.width, D.int r.lines, .tup (r.kinds.map tupI), tupI r.acting] = true := by
    unfold tupI
    simp only [okNs_cons, okN_int, okN_tup, okNs_ints, okNs_nil, Bool.and_true, Bool.true_and]
    exact okNs_tupI _
  have k2 := eqvs_self k1
  refine wp_eq (out_wp ?_)
  refine post_gen fun K hK => ?_
  have hb : ∀ (a b c d : D) (s : S), bin .add (.tup [a, b]) (.tup [c, d]) s = .ok (.tup [a, b, c, d]) s := fun a b c d s => bin_tup (by show 4 ≤ 16777216; omega)
  simp [F_need_comparable, start, e1, e2, hb, eq_tup k1 k1, k2]
  subst hK
  show (norm s .non s).wp _
  rw [norm_self below_non]
  exact wp_ok ⟨rfl, rfl⟩
theorem frm_lk {r : Rule} (hr : r.ok) : r.frm.lk := by
  unfold Rule.frm
  split
  · trivial
  · exact hr.k
theorem rule_within_at {w lv : Nat} {r r' : Rule} {s : S} (hr : r.ok) (hr' : r'.ok) (h1 : r'.width = r.width) (h2 : r'.lines = r.lines) (h3 : r'.kinds = r.kinds) (h4 : r'.acting = r.acting) (hlv : 6 ≤ lv) : callN P w lv "rule_within" [r.toD, r'.toD] s = .ok (.bl (r.frm.within r'.frm)) s := by
  obtain ⟨n, rfl⟩ : ∃ n, lv = n + 1 := ⟨lv - 1, by omega⟩
  rw [callN_at fn_rule_within rfl]
  have e0 := need_comparable_at (w := w) (lv := n) (s := s) hr hr' h1 h2 h3 h4 (by omega)
  have e1 := rule_form_at (w := w) (lv := n) (s := s) hr (by omega)
  have e2 := rule_form_at (w := w) (lv := n) (s := s) hr' (by omega)
  have e3 := form_within_at (w := w) (lv := n) (s := s) (frm_lk hr) (frm_lk hr') (by omega)
  rw [frm_toD, frm_toD] at e3
  simp [F_rule_within, start, e0, e1, e2, e3, norm_self]
def lookAt (i : Int) : List Nat := if i = 0 then wFirst else if i = 1 then wInto else wPast
theorem lookAt_ix {i : Int} (h0 : 0 ≤ i) (h1 : i < 3) : ixGet [D.str wFirst, D.str wInto, D.str wPast] i = some (.str (lookAt i)) := by
  have : i = 0 ∨ i = 1 ∨ i = 2 := by omega
  rcases this with rfl | rfl | rfl <;> simp [lookAt]
theorem lookAt_ok (i : Int) : lookOk (lookAt i) := by
  unfold lookAt lookOk; split; exact .inr (.inr rfl); split; exact .inl rfl; exact .inr (.inl rfl)
theorem rank_at {i : Int} (h0 : 0 ≤ i) (h1 : i < 3) : rank (lookAt i) = i := by
  have : i = 0 ∨ i = 1 ∨ i = 2 := by omega
  rcases this with rfl | rfl | rfl <;> rfl
theorem rank_lt {lk : List Nat} (h : lookOk lk) : 0 ≤ rank lk ∧ rank lk < 3 := by
  rcases h with rfl | rfl | rfl <;> decide
/-- t is wider than r in each field -/
structure Rule.wider (r t : Rule) : Prop where
  room : r.room ≤ t.room
  sends : r.sends = wWhole ∨ t.sends = r.sends
  eager : t.eager = true → r.eager = true ∧ t.sends = r.sends
  look : rank r.look ≤ rank t.look
theorem wider_within {r t : Rule} (h : r.wider t) (h1 : t.width = r.width) (h2 : t.lines = r.lines) : r.frm.within t.frm = true := by
  obtain ⟨wd, ln, rm, se, ea, lk, ks, ac⟩ := r
  obtain ⟨wd', ln', rm', se', ea', lk', ks', ac'⟩ := t
  simp only at h1 h2
  subst h1 h2
  obtain ⟨k1, k2, k3, k4⟩ := h
  simp only at k1 k2 k3 k4
  have hm : (if rm ≤ (if 2 ≤ ln' then 2 else ln') then rm else (if 2 ≤ ln' then 2 else ln')) ≤ (if rm' ≤ (if 2 ≤ ln' then 2 else ln') then rm' else (if 2 ≤ ln' then 2 else ln')) := by
    split <;> split <;> split <;> omega
  unfold Rule.frm
  simp only
  by_cases c1 : wd' = 1
  · subst c1
    cases ea with
    | true => simp [Form.within]
    | false =>
      cases ea' with
      | true => exact absurd (k3 rfl).1 (by simp)
      | false => simp [Form.within, hm, k4]
  · cases ea' with
    | false =>
      rcases k2 with k2 | k2 <;> simp [c1, Form.within, hm, k4, k2]
    | true =>
      obtain ⟨k5, k6⟩ := k3 rfl
      subst k5 k6
      simp [c1, Form.within, hm, k4]
theorem widerC {w lv : Nat} {xs cs M : List Int} {q : PC} {tl : S} {r : Rule} {c : Nat} (hr : r.ok) (hq : q.ok c) (hc : c < 900000) (hw : wfT tl) (hlv : 2 ≤ lv) :
    ∃ (r' : Rule) (q' : PC), r'.ok ∧ r'.width = r.width ∧ r'.lines = r.lines ∧ r'.kinds = r.kinds ∧ r'.acting = r.acting ∧ r.wider r' ∧ q'.ok (c + 100) ∧ callN P w lv "_law_wider" [.loc 4, r.toD] (psC xs cs M q tl) = .ok r'.toD (psC xs cs M q' tl) := by
  obtain ⟨n, rfl⟩ : ∃ n, lv = n + 2 := ⟨lv - 2, by omega⟩
  rw [callN_at fn__law_wider rfl]
  have rk := rank_lt hr.k
  have rl := rank_list hr.k
  have hrm := hr.rm
  have fin : ∀ {z : RS}, z.rt (fun d s' => ∃ (r' : Rule) (q' : PC) (u : S), r'.ok ∧ r'.width = r.width ∧ r'.lines = r.lines ∧ r'.kinds = r.kinds ∧ r'.acting = r.acting ∧ r.wider r' ∧ q'.ok (c + 100) ∧ d = r'.toD ∧ s' = psC xs cs M q' (tl ++ u)) →
      ∃ (r' : Rule) (q' : PC), r'.ok ∧ r'.width = r.width ∧ r'.lines = r.lines ∧ r'.kinds = r.kinds ∧ r'.acting = r.acting ∧ r.wider r' ∧ q'.ok (c + 100) ∧ RS.out (psC xs cs M q tl) z = .ok r'.toD (psC xs cs M q' tl) := by
    rintro z ⟨_, _, rfl, r', q', u, h1, h2, h3, h4, h5, h6, h7, rfl, rfl⟩
    refine ⟨r', q', h1, h2, h3, h4, h5, h6, h7, ?_⟩
    rw [out_ret, ← psC_app]
    exact norm_drop rfl (.inr (wf_psC hw)) below_toD
  refine fin ?_
  obtain ⟨d3, q3, hq3, a3, b3, e3⟩ := drawC (w := w) (lv := n + 1) (xs := xs) (cs := cs) (M := M) (tl := tl) (lim := 4 - r.room) (by omega) (by omega) hq (by omega) hw
  have hwL : ∀ l : List (List Nat), wfT (tl ++ [.lst (l.map .str)]) := fun l => by
    unfold wfT at hw ⊢
    have : belows 0 (l.map D.str) = true := by induction l <;> simp_all
    simp [hw, this]
  have hwLL : ∀ l l' : List (List Nat), wfT (tl ++ [.lst (l.map .str), .lst (l'.map .str)]) := fun l l' => by
    unfold wfT at hw ⊢
    have : ∀ l : List (List Nat), belows 0 (l.map D.str) = true := fun l => by induction l <;> simp_all
    simp [hw, this]
  obtain ⟨wd, ln, rm, se, ea, lk, ks, ac⟩ := r
  simp only at rk rl hrm a3 b3
  have mk : ∀ (se' : List Nat) (ea' : Bool) (d6 : Int), (se = wWhole ∨ se' = se) → (se' = wWhole ∨ se' = wParts ∨ se' = wFilled) → (ea' = true → ea = true ∧ se' = se) → 0 ≤ d6 → d6 < 3 - rank lk →
      (Rule.mk wd ln (rm + d3) se' ea' (lookAt (rank lk + d6)) ks ac).ok ∧ Rule.wider ⟨wd, ln, rm, se, ea, lk, ks, ac⟩ ⟨wd, ln, rm + d3, se', ea', lookAt (rank lk + d6), ks, ac⟩ := fun se' ea' d6 z1 z2 z3 z4 z5 =>
    ⟨⟨hr.w, hr.l, by simp only; omega, z2, lookAt_ok _, hr.kl, hr.ks, hr.a, hr.al⟩, ⟨by simp only; omega, z1, z3, by simp only; rw [rank_at (by omega) (by omega)]; omega⟩⟩
  by_cases h1 : se = wWhole
  · subst h1
    obtain ⟨d4, q4, hq4, a4, b4, e4⟩ := drawC (w := w) (lv := n + 1) (xs := xs) (cs := cs) (M := M) (lim := 3) (by omega) (by omega) hq3 (by omega) (hwL [wWhole, wParts, wFilled])
    obtain ⟨d5, q5, hq5, a5, b5, e5⟩ := drawC (w := w) (lv := n + 1) (xs := xs) (cs := cs) (M := M) (lim := 2) (by omega) (by omega) hq4 (by omega) (hwL [wWhole, wParts, wFilled])
    obtain ⟨d6, q6, hq6, a6, b6, e6⟩ := drawC (w := w) (lv := n + 1) (xs := xs) (cs := cs) (M := M) (lim := 3 - rank lk) (by omega) (by omega) hq5 (by omega) (hwLL [wWhole, wParts, wFilled] [wFirst, wInto, wPast])
    obtain ⟨d7, q7, hq7, a7, b7, e7⟩ := drawC (w := w) (lv := n + 1) (xs := xs) (cs := cs) (M := M) (lim := 3 - rank lk) (by omega) (by omega) hq4 (by omega) (hwLL [wWhole, wParts, wFilled] [wFirst, wInto, wPast])
    simp only [List.map_cons, List.map_nil] at e4 e5 e6 e7
    have x6 := lookAt_ix (i := rank lk + d6) (by omega) (by omega)
    have x7 := lookAt_ix (i := rank lk + d7) (by omega) (by omega)
    cases ea with
    | true =>
      by_cases h2 : sendsOf d4 = wWhole
      · simp [F__law_wider, start, Rule.toD, e3, alloc, fold_w, e4, e5, lst_at, lst_end, sends_ix a4 b4, rl, h2, e6, x6, bin_tup, big_eq']
        refine rt_ret ?_
        have k := mk wWhole (decide (d5 = 1)) d6 (.inl rfl) (.inl rfl) (fun _ => ⟨rfl, rfl⟩) a6 b6
        exact ⟨_, k.1, rfl, rfl, rfl, rfl, k.2, q6, ⟨hq6.G, by have := hq6.k; omega⟩, rfl, _, rfl⟩
      · simp [F__law_wider, start, Rule.toD, e3, alloc, fold_w, e4, e5, lst_at, lst_end, sends_ix a4 b4, rl, h2, e7, x7, bin_tup, big_eq']
        refine rt_ret ?_
        have k := mk (sendsOf d4) false d7 (.inl rfl) (sends_ok d4) (fun z => by cases z) a7 b7
        exact ⟨_, k.1, rfl, rfl, rfl, rfl, k.2, q7, ⟨hq7.G, by have := hq7.k; omega⟩, rfl, _, rfl⟩
    | false =>
      simp [F__law_wider, start, Rule.toD, e3, alloc, fold_w, e4, lst_at, lst_end, sends_ix a4 b4, rl, e7, x7, bin_tup, big_eq']
      refine rt_ret ?_
      have k := mk (sendsOf d4) false d7 (.inl rfl) (sends_ok d4) (fun z => by cases z) a7 b7
      exact ⟨_, k.1, rfl, rfl, rfl, rfl, k.2, q7, ⟨hq7.G, by have := hq7.k; omega⟩, rfl, _, rfl⟩
  · obtain ⟨d5, q5, hq5, a5, b5, e5⟩ := drawC (w := w) (lv := n + 1) (xs := xs) (cs := cs) (M := M) (tl := tl) (lim := 2) (by omega) (by omega) hq3 (by omega) hw
    obtain ⟨d6, q6, hq6, a6, b6, e6⟩ := drawC (w := w) (lv := n + 1) (xs := xs) (cs := cs) (M := M) (lim := 3 - rank lk) (by omega) (by omega) hq5 (by omega) (hwL [wFirst, wInto, wPast])
    obtain ⟨d7, q7, hq7, a7, b7, e7⟩ := drawC (w := w) (lv := n + 1) (xs := xs) (cs := cs) (M := M) (lim := 3 - rank lk) (by omega) (by omega) hq3 (by omega) (hwL [wFirst, wInto, wPast])
    simp only [List.map_cons, List.map_nil] at e6 e7
    have x6 := lookAt_ix (i := rank lk + d6) (by omega) (by omega)
    have x7 := lookAt_ix (i := rank lk + d7) (by omega) (by omega)
    cases ea with
    | true =>
      simp [F__law_wider, start, Rule.toD, e3, alloc, fold_w, h1, e5, lst_at, lst_end, rl, e6, x6, bin_tup, big_eq']
      refine rt_ret ?_
      have k := mk se (decide (d5 = 1)) d6 (.inr rfl) hr.s (fun _ => ⟨rfl, rfl⟩) a6 b6
      exact ⟨_, k.1, rfl, rfl, rfl, rfl, k.2, q6, ⟨hq6.G, by have := hq6.k; omega⟩, rfl, _, rfl⟩
    | false =>
      simp [F__law_wider, start, Rule.toD, e3, alloc, fold_w, h1, lst_at, lst_end, rl, e7, x7, bin_tup, big_eq']
      refine rt_ret ?_
      have k := mk se false d7 (.inr rfl) hr.s (fun z => by cases z) a7 b7
      exact ⟨_, k.1, rfl, rfl, rfl, rfl, k.2, q7, ⟨hq7.G, by have := hq7.k; omega⟩, rfl, _, rfl⟩
theorem parting_ops_at {w lv : Nat} {wd : Int} {f g : Form} {s : S} (hf : f.lk) (hg : g.lk) (h1 : 1 ≤ wd) (h3 : wd ≤ 3) (hn : f.within g = false) (hlv : 1 ≤ lv) :
    ∃ ops q j u, callN P w lv "parting_ops" [.int wd, f.toD, g.toD] s = .ok (.tup [.loc j, q]) (s ++ u) ∧ S.mlst (s ++ u) j = some ops ∧ s.length ≤ j ∧ ops ≠ [] ∧ ops.length ≤ 4 ∧ belows 0 ops = true ∧ below 0 q = true := by
  obtain ⟨n, rfl⟩ : ∃ n, lv = n + 1 := ⟨lv - 1, by omega⟩
  rw [callN_at fn_parting_ops rfl]
  have gS : P.gl "STRAIGHT" = some (.tup [.str wStraight]) := gl_STRAIGHT
  have fin : ∀ {r : RS}, r.rt (fun d s' => ∃ ops q j u, d = .tup [.loc j, q] ∧ s' = s ++ u ∧ S.mlst (s ++ u) j = some ops ∧ s.length ≤ j ∧ ops ≠ [] ∧ ops.length ≤ 4 ∧ belows 0 ops = true ∧ below 0 q = true) →
      ∃ ops q j u, RS.out s r = .ok (.tup [.loc j, q]) (s ++ u) ∧ S.mlst (s ++ u) j = some ops ∧ s.length ≤ j ∧ ops ≠ [] ∧ ops.length ≤ 4 ∧ belows 0 ops = true ∧ below 0 q = true := by
    rintro r ⟨_, _, rfl, ops, q, j, u, rfl, rfl, g1, g2, g3, g4, g5, g6⟩
    refine ⟨ops, q, j, u, ?_, g1, g2, g3, g4, g5, g6⟩
    have hb : ¬ (below s.length (.tup [.loc j, q]) = true) := by
      simp only [below_tup, belows_cons, below_loc, Bool.and_eq_true, decide_eq_true_eq]
      omega
    rw [out_ret]
    unfold norm
    simp only
    split
    · first | rfl | rw [if_neg hb]
    · rfl
  refine fin (rt_gen fun Q hQ => ?_)
  have lit : ∀ (ops : List D) (q : D), ops ≠ [] → ops.length ≤ 4 → belows 0 ops = true → below 0 q = true → Q = (fun d s' => ∃ ops q j u, d = .tup [.loc j, q] ∧ s' = s ++ u ∧ S.mlst (s ++ u) j = some ops ∧ s.length ≤ j ∧ ops ≠ [] ∧ ops.length ≤ 4 ∧ belows 0 ops = true ∧ below 0 q = true) →
      (RS.ret (.tup [.loc s.length, q]) (s ++ [.lst ops])).rt Q := fun ops q a b c d e => by
    subst e
    exact rt_ret ⟨ops, q, s.length, [.lst ops], rfl, rfl, mlst_end, Nat.le_refl _, a, b, c, d⟩
  cases g with
  | st =>
    simp [F_parting_ops, start, Form.toD, gS, eq_tup, alloc]
    exact lit _ _ (by simp) (by simp) rfl rfl hQ
  | mk m' se' ea' lk' =>
    cases f with
    | st => simp [Form.within] at hn
    | mk m se ea lk =>
      by_cases c1 : m' < m
      · simp [F_parting_ops, start, Form.toD, gS, eq_tup, alloc, c1]
        exact lit _ _ (by simp) (by simp) rfl rfl hQ
      · have hm : mem s (.str se) (.tup [.str wWhole, .str se']) = some (decide (se = wWhole) || decide (se = se')) := by
          rw [mem_tup (ok_eq.trans okN_str) rfl]
          simp only [List.any_cons, List.any_nil, eqv_str, Bool.or_false]
          congr 2
          · by_cases h : wWhole = se <;> simp [h, eq_comm] <;> (try (intro z; exact absurd z.symm h))
          · by_cases h : se' = se <;> simp [h, eq_comm] <;> (try (intro z; exact absurd z.symm h))
        have c1' : m ≤ m' := by omega
        cases c2 : (decide (se = wWhole) || decide (se = se')) with
        | false =>
          rw [c2] at hm
          by_cases c3 : se = wParts
          · subst c3
            simp [F_parting_ops, start, Form.toD, gS, eq_tup, alloc, c1, fold_w, hm]
            exact lit _ _ (by simp) (by simp) rfl rfl hQ
          · simp [F_parting_ops, start, Form.toD, gS, eq_tup, alloc, c1, fold_w, hm, c3]
            exact lit _ _ (by simp) (by simp) rfl rfl hQ
        | true =>
          rw [c2] at hm
          cases c4 : ea' && !ea with
          | false =>
            by_cases c5 : lk' = wInto
            · subst c5
              cases ea <;> cases ea' <;> first | (simp at c4; done) | (
                simp [F_parting_ops, start, Form.toD, gS, eq_tup, alloc, c1, fold_w, hm]
                exact lit _ _ (by simp) (by simp) rfl rfl hQ)
            · cases ea <;> cases ea' <;> first | (simp at c4; done) | (
                simp [F_parting_ops, start, Form.toD, gS, eq_tup, alloc, c1, fold_w, hm, c5]
                exact lit _ _ (by simp) (by simp) rfl rfl hQ)
          | true =>
            cases ea <;> cases ea' <;> first | (simp at c4; done) | skip
            obtain ⟨m3, rfl⟩ : ∃ m : Nat, wd = m := ⟨wd.toNat, by omega⟩
            have r1 : rngOk 0 (m3 : Int) = true := rng_ok (by omega) (by omega) (by omega) (by omega)
            simp [F_parting_ops, start, Form.toD, gS, eq_tup, alloc, c1, fold_w, hm, r1, range_eq]
            rw [comp_all (g := fun k : Nat => D.int k) (h := fun k : Nat => D.tup [.str [119, 114, 105, 116, 101], .int k]) (l := List.range m3)]
            · generalize hA : (List.range m3).map (fun k : Nat => D.tup [.str [119, 114, 105, 116, 101], .int k]) = A
              have lA : A.length = m3 := by rw [← hA, List.length_map, List.length_range]
              have bA : belows 0 A = true := by
                rw [← hA]
                have : ∀ l : List Nat, belows 0 (l.map fun k : Nat => D.tup [.str [119, 114, 105, 116, 101], .int k]) = true := fun l => by induction l <;> simp_all
                exact this _
              have hb : bin .add (.loc s.length) (.loc (s.length + 1)) (s ++ [.lst A, .lst [.tup [.str [112, 117, 116], .int 1]]]) = .ok (.loc (s.length + 2)) (s ++ [.lst A, .lst [.tup [.str [112, 117, 116], .int 1]], .lst (A ++ [.tup [.str [112, 117, 116], .int 1]])]) := by
                rw [bin_lst (xs := A) (ys := [.tup [.str [112, 117, 116], .int 1]]) mlst_end mlst_at (by simp [big_eq']; omega)]
                simp [alloc]
              simp [alloc, hb]
              subst hQ
              exact rt_ret ⟨_, _, s.length + 2, _, rfl, rfl, mlst_at, by omega, by simp, by simp; omega, by simp [bA], by simp⟩
            · exact watched_nil
            · intro a _
              exact ⟨_, rfl, ⟨_, rfl, rfl⟩, by simp⟩
theorem parting_program_at {w lv : Nat} {r t : Rule} {s : S} (hr : r.ok) (ht : t.ok) (h1 : t.width = r.width) (h2 : t.lines = r.lines) (h3 : t.kinds = r.kinds) (h4 : t.acting = r.acting) (hlv : 6 ≤ lv) :
    ∃ d, callN P w lv "parting_program" [r.toD, t.toD] s = .ok d s ∧ isNon d = r.frm.within t.frm := by
  obtain ⟨n, rfl⟩ : ∃ n, lv = n + 1 := ⟨lv - 1, by omega⟩
  rw [callN_at fn_parting_program rfl]
  have e0 := need_comparable_at (w := w) (lv := n) (s := s) hr ht h1 h2 h3 h4 (by omega)
  have e1 := rule_form_at (w := w) (lv := n) (s := s) hr (by omega)
  have e2 := rule_form_at (w := w) (lv := n) (s := s) ht (by omega)
  have e3 := form_within_at (w := w) (lv := n) (s := s) (frm_lk hr) (frm_lk ht) (by omega)
  rw [← frm_toD] at e1 e2
  have fin : ∀ {z : RS}, z.rt (fun d s' => ∃ u, s' = s ++ u ∧ below s.length d = true ∧ isNon d = r.frm.within t.frm) → ∃ d, RS.out s z = .ok d s ∧ isNon d = r.frm.within t.frm := by
    rintro z ⟨d, _, rfl, u, rfl, g1, g2⟩
    exact ⟨d, norm_drop rfl (.inl rfl) g1, g2⟩
  refine fin (rt_gen fun Q hQ => ?_)
  have e4 : ∀ s, item s r.toD (.int 0) = some (.int r.width) := fun s => by simp [Rule.toD]
  cases hw : r.frm.within t.frm with
  | true =>
    rw [hw] at e3
    simp [F_parting_program, start, e0, e1, e2, e3]
    subst hQ
    exact rt_ret ⟨[], by simp, below_non, hw.symm⟩
  | false =>
    rw [hw] at e3
    obtain ⟨ops, q, j, u, e5, g1, g2, g3, g4, g5, g6⟩ := parting_ops_at (w := w) (lv := n) (s := s) (frm_lk hr) (frm_lk ht) hr.w.1 hr.w.2 hw (by omega)
    have jl := mlst_lt g1
    have g1' : ∀ v, S.lst (s ++ (u ++ v)) j = some ops := fun v => by rw [← List.append_assoc, lst_app jl]; exact mlst_lst g1
    have enu := enu_loc (mlst_lst g1) (by rw [big_eq']; omega)
    simp [F_parting_program, start, e0, e1, e2, e3, e4, e5, enu]
    rw [← List.map_id (enumFrom 0 ops), comp_all (g := id) (h := fun z => match z with | .tup [.int i, op] => .tup [op, .tup [], .tup [.int (i + 1)]] | _ => .non) (l := enumFrom 0 ops)]
    · generalize hR : List.map _ (enumFrom 0 ops) = R
      have nR : R ≠ [] := by
        intro z
        rw [z] at hR
        have := congrArg List.length hR
        simp [enum_length] at this
        exact g3 this
      have bR : belows 0 R = true := by
        rw [← hR]
        refine belows_all fun d hd => ?_
        obtain ⟨z, hz, rfl⟩ := List.mem_map.mp hd
        obtain ⟨i, x, rfl, hx⟩ := enum_mem (k := 0) hz
        simp [belows_mem g5 hx]
      obtain ⟨x, hx, xm⟩ := last_get g3
      have ix : ixGet ops (-1) = some x := by rw [ixGet_m1]; exact hx
      have mR : S.mlst (s ++ (u ++ [.lst R])) (s.length + u.length) = some R := by rw [mlst_at]; exact mlst_end (t := [.lst R])
      have sR : ∀ o, setS (s ++ (u ++ [.lst R])) (s.length + u.length) o = s ++ (u ++ [o]) := fun o => by rw [setS_at]; congr 1; exact setS_end (t := [.lst R])
      have lR : ∀ R', S.lst (s ++ (u ++ [.lst R'])) (s.length + u.length) = some R' := fun R' => by rw [lst_at]; exact lst_end (t := [.lst R'])
      simp [alloc, g1', ix, mR, sR, setIx_m1 nR, lR]
      subst hQ
      refine rt_ret ⟨_, rfl, ?_, by rw [hw]; rfl⟩
      have b1 : belows s.length (R.set (R.length - 1) (.tup [x, .tup [], .tup []])) = true := belows_mono (Nat.zero_le _) (belows_all fun d hd => by
        rcases List.mem_or_eq_of_mem_set hd with h | rfl
        · exact belows_mem bR h
        · simp [belows_mem g5 xm])
      simp [b1, below_mono (Nat.zero_le _) g6]
    · exact watched_one (mlst_lst g1)
    · intro z hz
      obtain ⟨i, x, rfl, _⟩ := enum_mem (k := 0) hz
      exact ⟨_, rfl, ⟨_, rfl, rfl⟩, by simp⟩
theorem Form.refl (f : Form) : f.within f = true := by
  cases f with
  | st => rfl
  | mk m se ea lk => cases ea <;> simp [Form.within]
theorem Form.trans {f g h : Form} (h1 : f.within g = true) (h2 : g.within h = true) : f.within h = true := by
  cases f with
  | st => rfl
  | mk m se ea lk =>
    cases g with
    | st => simp [Form.within] at h1
    | mk m' se' ea' lk' =>
      cases h with
      | st => simp [Form.within] at h2
      | mk m2 se2 ea2 lk2 =>
        simp only [Form.within, Bool.and_eq_true, Bool.or_eq_true, decide_eq_true_eq, Bool.not_eq_true'] at h1 h2 ⊢
        obtain ⟨⟨⟨a1, a2⟩, a3⟩, a4⟩ := h1
        obtain ⟨⟨⟨b1, b2⟩, b3⟩, b4⟩ := h2
        refine ⟨⟨⟨by omega, ?_⟩, ?_⟩, by omega⟩
        · rcases a2 with a2 | rfl
          · exact .inl a2
          · exact b2
        · cases ea <;> cases ea' <;> cases ea2 <;> simp_all
theorem rank_inj {a b : List Nat} (ha : lookOk a) (hb : lookOk b) (h : rank a = rank b) : a = b := by
  rcases ha with rfl | rfl | rfl <;> rcases hb with rfl | rfl | rfl <;> first | rfl | (exact absurd h (by decide))
def Form.eq : Form → Form → Bool
  | .st, .st => true
  | .mk m se ea lk, .mk m' se' ea' lk' => decide (m = m') && (decide (se = se') && (decide (ea = ea') && decide (lk = lk')))
  | _, _ => false
theorem Form.eqD {f g : Form} {s : S} : PX.eqD s f.toD g.toD = some (f.eq g) := by
  cases f <;> cases g <;> (unfold Form.toD; rw [eq_tup (by rfl) (by rfl)]; simp [Form.eq])
theorem Form.both {f g : Form} (hf : f.lk) (hg : g.lk) : (f.within g && g.within f) = f.eq g := by
  cases f with
  | st => cases g <;> rfl
  | mk m se ea lk =>
    cases g with
    | st => rfl
    | mk m' se' ea' lk' =>
      rw [Bool.eq_iff_iff]
      simp only [Form.within, Form.eq, Bool.and_eq_true, Bool.or_eq_true, decide_eq_true_eq, Bool.not_eq_true']
      constructor
      · rintro ⟨⟨⟨⟨a1, a2⟩, a3⟩, a4⟩, ⟨⟨b1, b2⟩, b3⟩, b4⟩
        refine ⟨by omega, ?_, ?_, rank_inj hf hg (by omega)⟩
        · rcases a2 with a2 | a2
          · rcases b2 with b2 | b2
            · rw [a2, b2]
            · exact b2.symm
          · exact a2
        · cases ea <;> cases ea' <;> simp_all
      · rintro ⟨rfl, rfl, rfl, rfl⟩
        cases ea <;> simp
theorem law_spec {w k : Nat} {ns : List Int} (hn : ns.length ≤ 63) (hk : 7 ≤ k) : ∃ s', callN P w (k + 1) "law" [.loc 0] [.ro (ns.map .int)] = .ok (.bl true) s' := by
  rw [callN_at fn_law rfl]
  obtain ⟨cs, M, G, hq, e0⟩ := poolC (w := w) (lv := k) hn (by omega)
  obtain ⟨a, q1, oa, _, hq1, e1⟩ := waysC (w := w) (lv := k) (xs := ns) (cs := cs) (M := M) (q := ⟨G, 0⟩) (tl := []) (wd := 3) (by omega) (by omega) hq (by omega) rfl (by omega)
  obtain ⟨b, q2, ob, b1, b2, b3, b4, hq2, e2⟩ := twinC (w := w) (lv := k) (xs := ns) (cs := cs) (M := M) (tl := []) oa hq1 (by omega) rfl (by omega)
  obtain ⟨c, q3, oc, c1, c2, c3, c4, wc, hq3, e3⟩ := widerC (w := w) (lv := k) (xs := ns) (cs := cs) (M := M) (tl := []) oa hq2 (by omega) rfl (by omega)
  obtain ⟨d, q4, od, d1, d2, d3, d4, wd, hq4, e4⟩ := widerC (w := w) (lv := k) (xs := ns) (cs := cs) (M := M) (tl := []) ob hq3 (by omega) rfl (by omega)
  have like : ∀ x ∈ [a, b, c, d], x.ok ∧ x.width = a.width ∧ x.lines = a.lines ∧ x.kinds = a.kinds ∧ x.acting = a.acting := by
    intro x hx
    simp at hx
    rcases hx with rfl | rfl | rfl | rfl
    · exact ⟨oa, rfl, rfl, rfl, rfl⟩
    · exact ⟨ob, b1, b2, b3, b4⟩
    · exact ⟨oc, c1, c2, c3, c4⟩
    · exact ⟨od, d1.trans b1, d2.trans b2, d3.trans b3, d4.trans b4⟩
  have rw_ : ∀ x ∈ [a, b, c, d], ∀ y ∈ [a, b, c, d], ∀ s, callN P w k "rule_within" [x.toD, y.toD] s = .ok (.bl (x.frm.within y.frm)) s := fun x hx y hy s => by
    obtain ⟨x0, x1, x2, x3, x4⟩ := like x hx
    obtain ⟨y0, y1, y2, y3, y4⟩ := like y hy
    exact rule_within_at x0 y0 (y1.trans x1.symm) (y2.trans x2.symm) (y3.trans x3.symm) (y4.trans x4.symm) (by omega)
  have rf_ : ∀ x ∈ [a, b, c, d], ∀ s, callN P w k "rule_form" [x.toD] s = .ok x.frm.toD s := fun x hx s => by
    rw [frm_toD]; exact rule_form_at (like x hx).1 (by omega)
  have pp_ : ∀ x ∈ [a, b, c, d], ∀ y ∈ [a, b, c, d], ∀ s, ∃ z, callN P w k "parting_program" [x.toD, y.toD] s = .ok z s ∧ isNon z = x.frm.within y.frm := fun x hx y hy s => by
    obtain ⟨x0, x1, x2, x3, x4⟩ := like x hx
    obtain ⟨y0, y1, y2, y3, y4⟩ := like y hy
    exact parting_program_at x0 y0 (y1.trans x1.symm) (y2.trans x2.symm) (y3.trans x3.symm) (y4.trans x4.symm) (by omega)
  have lt4 : ∀ {i : Nat}, i < 4 → i = 0 ∨ i = 1 ∨ i = 2 ∨ i = 3 := fun h => by omega
  obtain ⟨R, r0, r1, r2, r3⟩ : ∃ R : Nat → Rule, R 0 = a ∧ R 1 = b ∧ R 2 = c ∧ R 3 = d := ⟨fun i => [a, b, c, d].getD i a, rfl, rfl, rfl, rfl⟩
  have Rm : ∀ {i : Nat}, i < 4 → R i ∈ [a, b, c, d] := fun h => by rcases lt4 h with rfl | rfl | rfl | rfl <;> simp [r0, r1, r2, r3]
  refine law_end (out_wp ?_)
  refine post_gen fun K hK => ?_
  have hW : ∀ u, watched [(5, [a.toD, b.toD, c.toD, d.toD])] (psC ns cs M q4 (.lst [a.toD, b.toD, c.toD, d.toD] :: u)) = true := fun u => watched_one rfl
  have hr : rngOk 0 4 = true := by decide
  have hn4 : range 0 4 = nums 0 4 := range_nums 4
  simp [F_law, start, e0, e1, e2, e3, e4, alloc, compLoop_cons, compLoop_nil, rw_, rf_, hW, hr, hn4]
  generalize hSt : psC ns cs M q4 _ = St
  have l5 : ∀ i : Nat, i < 4 → ((S.lst St 5).bind fun xs => ixGet xs (i : Int)) = some (R i).toD := fun i hi => by
    rw [← hSt]; rcases lt4 hi with rfl | rfl | rfl | rfl <;> simp [r0, r1, r2, r3]
  have l11 : ∀ i : Nat, i < 4 → ((S.lst St 11).bind fun xs => ixGet xs (i : Int)) = some (R i).frm.toD := fun i hi => by
    rw [← hSt]; rcases lt4 hi with rfl | rfl | rfl | rfl <;> simp [r0, r1, r2, r3]
  have l10 : ∀ i : Nat, i < 4 → ((S.lst St 10).bind fun xs => ixGet xs (i : Int)) = some (.loc (6 + i)) := fun i hi => by
    rw [← hSt]; rcases lt4 hi with rfl | rfl | rfl | rfl <;> simp
  have l6 : ∀ i : Nat, i < 4 → ∀ j : Nat, j < 4 → ((S.lst St (6 + i)).bind fun xs => ixGet xs (j : Int)) = some (.bl ((R i).frm.within (R j).frm)) := fun i hi j hj => by
    rw [← hSt]; rcases lt4 hi with rfl | rfl | rfl | rfl <;> rcases lt4 hj with rfl | rfl | rfl | rfl <;> simp [r0, r1, r2, r3]
  refine post_seq (for_post (fun ds η s => St = s ∧ ∃ (i m : Nat) (o1 o2 o3 o4 o5 : Option D), ds = nums i m ∧ i + m = 4 ∧ η = [some (.loc 0), some (.loc 4), some a.toD, some b.toD, some (.loc 5), some (.loc 10), some (.loc 11), o1, o2, o3, o4, o5]) ?_ ?_ _ _ _ ⟨rfl, 0, 4, _, _, _, _, _, rfl, rfl, rfl⟩)
  · rintro x ds η s ⟨rfl, i, m, o1, o2, o3, o4, o5, h1, h2, rfl⟩
    obtain ⟨m', rfl, rfl, rfl⟩ := nums_inv h1
    have hi : i < 4 := by omega
    refine ⟨_, rfl, ?_⟩
    refine post_gen fun K2 hK2 => ?_
    simp [l10 i hi, l6 i hi i hi, Form.refl, hr, hn4]
    refine post_seq (for_post (fun ds η s => St = s ∧ ∃ (j m : Nat) (o2 o3 o4 o5 : Option D), ds = nums j m ∧ j + m = 4 ∧ η = [some (.loc 0), some (.loc 4), some a.toD, some b.toD, some (.loc 5), some (.loc 10), some (.loc 11), some (.int i), o2, o3, o4, o5]) ?_ ?_ _ _ _ ⟨rfl, 0, 4, _, _, _, _, rfl, rfl, rfl⟩)
    · rintro x ds η s ⟨rfl, j, m, o2, o3, o4, o5, h1, h2, rfl⟩
      obtain ⟨m'', rfl, rfl, rfl⟩ := nums_inv h1
      have hj : j < 4 := by omega
      refine ⟨_, rfl, ?_⟩
      refine post_gen fun K3 hK3 => ?_
      obtain ⟨z, p1, p2⟩ := pp_ (R i) (Rm hi) (R j) (Rm hj) St
      have bo := Form.both (frm_lk (like _ (Rm hi)).1) (frm_lk (like _ (Rm hj)).1)
      have e9 := Form.eqD (f := (R i).frm) (g := (R j).frm) (s := St)
      have q1 := l10 i hi
      have q2 := l10 j hj
      have q3 := l6 i hi j hj
      have q4 := l6 j hj i hi
      have q5 := l11 i hi
      have q6 := l11 j hj
      have q7 := l5 i hi
      have q8 := l5 j hj
      cases w1 : (R i).frm.within (R j).frm with
      | false =>
        have w3 : (R i).frm.eq (R j).frm = false := by rw [← bo, w1]; rfl
        rw [w1] at p2 q3
        rw [w3] at e9
        simp [q1, q2, q3, q4, q5, q6, q7, q8, e9, p1, p2, hr, hn4]
        refine post_seq (for_post (fun ds η s => St = s ∧ ∃ (l m : Nat) (o3 o4 o5 : Option D), ds = nums l m ∧ l + m = 4 ∧ η = [some (.loc 0), some (.loc 4), some a.toD, some b.toD, some (.loc 5), some (.loc 10), some (.loc 11), some (.int i), some (.int j), o3, o4, o5]) ?_ ?_ _ _ _ ⟨rfl, 0, 4, _, _, _, rfl, rfl, rfl⟩)
        · rintro x ds η s ⟨rfl, l, m, o3, o4, o5, h1, h2, rfl⟩
          obtain ⟨m4, rfl, rfl, rfl⟩ := nums_inv h1
          refine ⟨_, rfl, ?_⟩
          refine post_gen fun K4 hK4 => ?_
          simp [q1, q2, q3]
          subst hK4
          exact ⟨rfl, rfl, l + 1, m4, _, _, _, rfl, by omega, rfl⟩
        · rintro η s ⟨rfl, l, m, o3, o4, o5, h1, h2, rfl⟩
          simp
          subst hK3
          exact ⟨rfl, rfl, j + 1, m'', _, _, _, _, rfl, by omega, rfl⟩
      | true =>
        have w3 : (R i).frm.eq (R j).frm = (R j).frm.within (R i).frm := by rw [← bo, w1]; rfl
        rw [w1] at p2 q3
        rw [w3] at e9
        simp [q1, q2, q3, q4, q5, q6, q7, q8, e9, p1, p2, hr, hn4]
        refine post_seq (for_post (fun ds η s => St = s ∧ ∃ (l m : Nat) (o3 o4 o5 : Option D), ds = nums l m ∧ l + m = 4 ∧ η = [some (.loc 0), some (.loc 4), some a.toD, some b.toD, some (.loc 5), some (.loc 10), some (.loc 11), some (.int i), some (.int j), o3, o4, o5]) ?_ ?_ _ _ _ ⟨rfl, 0, 4, _, _, _, rfl, rfl, rfl⟩)
        · rintro x ds η s ⟨rfl, l, m, o3, o4, o5, h1, h2, rfl⟩
          obtain ⟨m4, rfl, rfl, rfl⟩ := nums_inv h1
          have hl : l < 4 := by omega
          refine ⟨_, rfl, ?_⟩
          refine post_gen fun K4 hK4 => ?_
          have q9 := l6 j hj l hl
          have q10 := l6 i hi l hl
          cases w5 : (R j).frm.within (R l).frm with
          | false =>
            rw [w5] at q9
            simp [q1, q2, q3, q9]
            subst hK4
            exact ⟨rfl, rfl, l + 1, m4, _, _, _, rfl, by omega, rfl⟩
          | true =>
            rw [w5] at q9
            rw [Form.trans w1 w5] at q10
            simp [q1, q2, q3, q9, q10]
            subst hK4
            exact ⟨rfl, rfl, l + 1, m4, _, _, _, rfl, by omega, rfl⟩
        · rintro η s ⟨rfl, l, m, o3, o4, o5, h1, h2, rfl⟩
          simp
          subst hK3
          exact ⟨rfl, rfl, j + 1, m'', _, _, _, _, rfl, by omega, rfl⟩
    · rintro η s ⟨rfl, j, m, o2, o3, o4, o5, h1, h2, rfl⟩
      simp
      subst hK2
      exact ⟨rfl, rfl, i + 1, m', _, _, _, _, _, rfl, by omega, rfl⟩
  · rintro η s ⟨rfl, i, m, o1, o2, o3, o4, o5, h1, h2, rfl⟩
    have t1 := l6 0 (by omega) 2 (by omega)
    have t2 := l6 1 (by omega) 3 (by omega)
    have u1 := l10 0 (by omega)
    have u2 := l10 1 (by omega)
    rw [r0, r2, wider_within wc c1 c2] at t1
    rw [r1, r3, wider_within wd d1 d2] at t2
    have t1 : ((S.lst St 6).bind fun xs => ixGet xs 2) = some (.bl true) := t1
    have t2 : ((S.lst St 7).bind fun xs => ixGet xs 3) = some (.bl true) := t2
    have u1 : ((S.lst St 10).bind fun xs => ixGet xs 0) = some (.loc 6) := u1
    have u2 : ((S.lst St 10).bind fun xs => ixGet xs 1) = some (.loc 7) := u2
    simp [t1, t2, u1, u2, -ixGet_lit]
    subst hK
    exact norm_bl
end PX
namespace PXEnd
open PySem PySem.Spec PyProof.Rows L2 PX
def body : List Stmt := PySem.Challenge.pw_heldwrites_k51_whole_order_of_rules.main.body
def NS : List (List PySem.Str) := [["thing"], ["thing", "limit", "least", "number"], ["thing", "words"], ["thing", "width", "lines", "room", "sends", "eager", "look", "kinds", "acting", "number", "kind"], ["thing"], ["rule", "width", "lines", "room", "sends", "eager", "look", "kinds", "acting"], ["rule", "other"], ["first", "second"], ["rule", "other"], ["width", "first", "second", "ops", "place"], ["rule", "other", "first", "second", "ops", "question", "rows", "index", "op"], ["script", "edge", "cells", "cell"], ["pool", "limit", "k", "great", "small", "cell", "mixed", "digit"], ["pool", "widest", "width", "lanes", "room", "sends", "eager", "look", "kinds", "k", "acting", "kind", "spot", "lane"], ["pool", "ways", "room", "sends", "eager", "look"], ["pool", "ways", "room", "sends", "eager", "looks", "least", "look"], ["script", "pool", "ways", "twin", "rows", "told", "forms", "k", "j", "one", "m", "two"]]
theorem chk : Chk PX.P body 60 NS := ⟨by kernel_rfl⟩
abbrev R : PySem.W.OpenRow := PySem.W.OpenLaw.row PySem.Challenge.rw_heldwrites_k51_whole_order_of_rules
abbrev hk : PySem.W.Hook := hookP 4 (faOf PX.P) (fnsOf PX.P body) PX.P.glo
def ob (s : PySem.W.SharedT) : He.AlD × Bool := obsPG 4 (faOf PX.P) (fnsOf PX.P body) PX.P.glo (HandSHeadRun.getT s)
theorem ob_eq (s : PySem.W.SharedT) : ob s = hk.obs s.abs := obsPG_eq (HandSHeadRun.getT_eq s)
def loose : List PySem.Str := (["GatherError", "BadRule", "UnlikeRules", "SENDS", "LOOKS", "is_integer", "is_ascending", "is_word", "is_rule", "need_rule", "STRAIGHT", "LOOK_ORDER", "rule_form", "need_comparable", "form_within", "rule_within", "parting_ops", "parting_program", "_law_pool", "_law_draw", "_law_ways", "_law_twin", "_law_wider"] : List PySem.Str)
theorem run (w : World) : HandSHeadRun.RunEq R (PySem.W.view R.prog [27]) hk ob 6000 loose w := by
  intro os
  kernel_rfl
end PXEnd
open PySem PySem.W PySem.Calls PyProof.Rows
theorem PySem.Challenge.cw_heldwrites_k51_whole_order_of_rules_holds : PySem.Challenge.rw_heldwrites_k51_whole_order_of_rules.Holds := by
  w_on; o_law
  refine HandSHeadRun.head_any (r := OpenLaw.row PySem.Challenge.rw_heldwrites_k51_whole_order_of_rules) (q := view (OpenLaw.row PySem.Challenge.rw_heldwrites_k51_whole_order_of_rules).prog [27]) (H := PXEnd.hk) (ob := PXEnd.ob) (M := 6000) (loose := PXEnd.loose) (d := HandSHeadRun.topDef (OpenLaw.row PySem.Challenge.rw_heldwrites_k51_whole_order_of_rules).prog 27) (kwd := []) PXEnd.ob_eq
    (by kernel_rfl) (fun s => by kernel_rfl) PXEnd.run (by kernel_rfl) (by kernel_rfl) (by kernel_rfl) (by rfl) (by first | assumption | decide +kernel) (by decide +kernel) ⟨rfl, rfl, rfl, rfl, rfl, by decide +kernel⟩ ?hw ?hc
  case hw => w_witness2
  case hc =>
    refine L2.walk_ofE (l := PySem.Challenge.rw_heldwrites_k51_whole_order_of_rules) (n := 63) (k := 9) (x := "script") (CX := L2.CX0) rfl (by decide) (by kernel_rfl) ⟨rfl, by decide, by decide⟩ ?F (fun _ _ _ _ z => z)
    intro w mg fa h Y G hmg0
    have hmg : mg ("law" : PySem.Str) = some (.ref fa) := by
      have e : (HandSHeadRun.topDef (OpenLaw.row PySem.Challenge.rw_heldwrites_k51_whole_order_of_rules).prog 27).name = ("law" : PySem.Str) := by kernel_rfl
      rw [← e]
      exact hmg0
    exact PX.finish (l := PySem.Challenge.rw_heldwrites_k51_whole_order_of_rules) (k := 8) (W := 100000) PXEnd.chk (lw := "law") (x := "script") (by kernel_rfl) (by kernel_rfl) (fun ns hn => PX.law_spec hn (by decide)) w mg fa h Y G hmg

