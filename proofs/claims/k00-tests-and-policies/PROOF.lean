import PyProof.Rows.All
import Wide.All
import OpenK.AllK
import Wide.FinOn
import HandS.ForMost
import HandS.Walk
import HandS.Exc
import HandS.ExcOwn
import HandS.TupAny
import HandS.TupMul
import HandS.CallSlots
import HandS.Defaults
import HandS.HeadHook4
import HandS.IsInst
import HandS.TupLe
import HandS.Strs
import HandS.SetFor
import HandS.Zip
import HandS.Dict
import HandS.Style
import HandS.Words
import HandS.Codes
import HandS.Head0
import HandS.Head1
import HandS.Head2
import HandS.HeadEnd
import HandS.HeadHook1
import HandS.HeadHook2
import PySem.Challenge.RW_tagrounds_k00_whole_tests_and_policies
set_option Elab.async false
set_option linter.all false
set_option maxRecDepth 100000
/-! A small evaluator of the part of Python that the texts at hand use: values without addresses, lists that a
    text changes in place kept in a store of cells. -/
namespace Pv
/-- values: data (flat), a cell of the store, a def of the text -/
inductive PV where
  | non
  | bl (b : Bool)
  | int (i : Int)
  | str (s : List Nat)
  | tup (l : List PV)
  | lst (l : List PV)
  | cell (k : Nat)
  | fn (i : Nat)
  deriving Inhabited
abbrev Mem := List (List PV)
abbrev Env := List (Option PV)
/-- an exception: its class (by number), its attribute -/
structure Xn where
  c : Nat
  v : PV
inductive R (α : Type) where
  | ok (a : α) (m : Mem)
  | exc (x : Xn) (m : Mem)
  | no
def bnd {α β : Type} (r : R α) (f : α → Mem → R β) : R β := match r with
  | .ok a m => f a m
  | .exc x m => .exc x m
  | .no => .no
@[simp] theorem bnd_ok {α β : Type} (a : α) (m : Mem) (f : α → Mem → R β) : bnd (.ok a m) f = f a m := rfl
@[simp] theorem bnd_exc {α β : Type} (x : Xn) (m : Mem) (f : α → Mem → R β) : bnd (.exc x m) f = .exc x m := rfl
@[simp] theorem bnd_no {α β : Type} (f : α → Mem → R β) : bnd .no f = .no := rfl
/-- no exception leaves a comprehension -/
def noexc {α : Type} (r : R α) : R α := match r with
  | .exc _ _ => .no
  | r => r
@[simp] theorem noexc_ok {α : Type} (a : α) (m : Mem) : noexc (.ok a m) = .ok a m := rfl
@[simp] theorem noexc_no {α : Type} : noexc (.no : R α) = .no := rfl
def lft {α : Type} (o : Option α) (m : Mem) : R α := match o with
  | some a => .ok a m
  | none => .no
@[simp] theorem lft_some {α : Type} (a : α) (m : Mem) : lft (some a) m = .ok a m := rfl
@[simp] theorem lft_none {α : Type} (m : Mem) : lft (none : Option α) m = .no := rfl
/-! ### data -/
def PV.isD : PV → Bool
  | .cell _ => false
  | .fn _ => false
  | _ => true
mutual
def PV.flat : PV → Bool
  | .tup l => flatAll l
  | .lst l => flatAll l
  | .cell _ => false
  | .fn _ => false
  | _ => true
def flatAll : List PV → Bool
  | [] => true
  | x :: l => x.flat && flatAll l
end
mutual
def PV.dep : PV → Nat
  | .tup l => depAll l + 1
  | .lst l => depAll l + 1
  | _ => 0
def depAll : List PV → Nat
  | [] => 0
  | x :: l => max x.dep (depAll l)
end
def b2 (b : Bool) : Int := if b then 1 else 0
mutual
/-- == of data -/
def PV.eqv : PV → PV → Bool
  | .non, .non => true
  | .bl a, .bl b => a == b
  | .bl a, .int j => b2 a == j
  | .int i, .bl b => i == b2 b
  | .int i, .int j => i == j
  | .str x, .str y => x == y
  | .lst a, .lst b => eqvAll a b
  | .tup a, .tup b => eqvAll a b
  | _, _ => false
def eqvAll : List PV → List PV → Bool
  | [], [] => true
  | x :: a, y :: b => x.eqv y && eqvAll a b
  | _, _ => false
end
/-- what a cell holds, as a list -/
def vw (m : Mem) : PV → PV
  | .cell k => match m[k]? with
    | some l => if l.all PV.isD then .lst l else .cell k
    | none => .cell k
  | v => v
def maxD : Nat := 64
def eqM (m : Mem) (x y : PV) : Option Bool :=
  if (vw m x).isD && (vw m y).isD && decide (min (vw m x).dep (vw m y).dep ≤ maxD) then some ((vw m x).eqv (vw m y)) else none
def big : Nat := 16777216
def truth (m : Mem) : PV → Option Bool
  | .non => some false
  | .bl b => some b
  | .int i => some (i != 0)
  | .str s => some (!s.isEmpty)
  | .tup l => some (!l.isEmpty)
  | .lst l => some (!l.isEmpty)
  | .cell k => m[k]?.map fun l => !l.isEmpty
  | .fn _ => none
/-! ### operators -/
inductive Op where
  | add | sub | mul | fdiv | mod | pow | band | bor | bxor | shr
def inL (i : Int) : Bool := decide (-(2 ^ 64) < i) && decide (i < 2 ^ 64)
/-- a list made anew, or a cell -/
def mkl (mu : Bool) (l : List PV) (m : Mem) : R PV :=
  if mu then .ok (.cell m.length) (m ++ [l]) else if l.all PV.isD then .ok (.lst l) m else .no
def bitAnd (a b : Int) : Option Int := match a, b with
  | .ofNat x, .ofNat y => some (.ofNat (x &&& y))
  | _, _ => none
def bitOr (a b : Int) : Option Int := match a, b with
  | .ofNat x, .ofNat y => some (.ofNat (x ||| y))
  | _, _ => none
def bitXor (a b : Int) : Option Int := match a, b with
  | .ofNat x, .ofNat y => some (.ofNat (x ||| y) - .ofNat (x &&& y))
  | _, _ => none
def rep {α : Type} (l : List α) : Nat → List α
  | 0 => []
  | n + 1 => l ++ rep l n
def arith (o : Op) (i j : Int) : Option Int := match o with
  | .add => some (i + j)
  | .sub => some (i - j)
  | .mul => if inL i || inL j then some (i * j) else none
  | .fdiv => if 0 < j ∧ j < 1073741824 then some (i / j) else none
  | .mod => if 0 < j then some (i % j) else none
  | .pow => if 0 ≤ j ∧ j ≤ 1000 ∧ i.natAbs < 2 ^ 64 then some (i ^ j.toNat) else none
  | .band => bitAnd i j
  | .bor => bitOr i j
  | .bxor => bitXor i j
  | .shr => if 0 ≤ j then some (i / 2 ^ j.toNat) else none
/-- a op b; what comes of lists is new -/
def binop (mu : Bool) (o : Op) (x y : PV) (m : Mem) : R PV := match vw m x, vw m y with
  | .int i, .int j => lft ((arith o i j).map .int) m
  | .tup a, .tup b => match o with
    | .add => if a.length + b.length ≤ big then .ok (.tup (a ++ b)) m else .no
    | _ => .no
  | .lst a, .lst b => match o with
    | .add => if a.length + b.length ≤ big then mkl mu (a ++ b) m else .no
    | _ => .no
  | .str a, .str b => match o with
    | .add => if a.length + b.length ≤ big then .ok (.str (a ++ b)) m else .no
    | _ => .no
  | .lst a, .int j => match o with
    | .mul => if a.length * j.toNat ≤ big ∧ j ≤ 1000000 ∧ -1000000 ≤ j then mkl mu (rep a j.toNat) m else .no
    | _ => .no
  | .tup a, .int j => match o with
    | .mul => if a.length ≤ 1000 ∧ a ≠ [] ∧ 2 ≤ j ∧ j ≤ 1000 then .ok (.tup (rep a j.toNat)) m else .no
    | _ => .no
  | _, _ => .no
inductive Cm where
  | eq | ne | lt | le | gt | ge | is_ | isnot | in_ | notin
def intsOf : List PV → Option (List Int)
  | [] => some []
  | .int i :: l => (intsOf l).map (i :: ·)
  | _ :: _ => none
def lexI : List Int → List Int → Bool
  | [], [] => false
  | [], _ :: _ => true
  | _ :: _, [] => false
  | x :: xs, y :: ys => if x = y then lexI xs ys else decide (x < y)
/-- <: of intsOf, of tuples of intsOf -/
def PV.lt : PV → PV → Option Bool
  | .int i, .int j => some (decide (i < j))
  | .tup a, .tup b => match intsOf a, intsOf b with
    | some x, some y => some (lexI x y)
    | _, _ => none
  | _, _ => none
def anyEq (d : PV) (l : List PV) : Bool := l.any fun z => z.eqv d
def isIn (m : Mem) (x y : PV) : Option Bool := match vw m y with
  | .tup l => if (vw m x).isD && decide (min (depAll l) (vw m x).dep ≤ maxD) then some (anyEq (vw m x) l) else none
  | .lst l => if (vw m x).isD && decide (min (depAll l) (vw m x).dep ≤ maxD) then some (anyEq (vw m x) l) else none
  | _ => none
def isSame (x y : PV) : Option Bool := match x, y with
  | .bl a, .bl b => some (a == b)
  | .non, .non => some true
  | _, .non => some false
  | _, _ => none
def cmpop (c : Cm) (m : Mem) (x y : PV) : Option Bool := match c with
  | .eq => eqM m x y
  | .ne => (eqM m x y).map (!·)
  | .lt => (vw m x).lt (vw m y)
  | .gt => match x, y with
    | .int i, .int j => some (decide (j < i))
    | _, _ => none
  | .le => match x, y with
    | .int i, .int j => some (decide (i ≤ j))
    | _, _ => none
  | .ge => match x, y with
    | .int i, .int j => some (decide (j ≤ i))
    | _, _ => none
  | .is_ => isSame x y
  | .isnot => (isSame x y).map (!·)
  | .in_ => isIn m x y
  | .notin => (isIn m x y).map (!·)
/-! ### the text -/
inductive Ty where
  | int | bool | str | tuple | list
def isTy (m : Mem) : PV → Ty → Option Bool
  | .non, _ => some false
  | .bl _, .bool => some true
  | .bl _, .int => some true
  | .bl _, _ => some false
  | .int _, .int => some true
  | .int _, _ => some false
  | .str _, .str => some true
  | .str _, _ => some false
  | .tup _, .tuple => some true
  | .tup _, _ => some false
  | .lst _, .list => some true
  | .lst _, _ => some false
  | .cell _, _ => none
  | .fn _, _ => none
inductive Bf where
  | len | abs | int_ | tuple | list | sorted | all | any | sum | min | max | str | lenset | sortset | tuprange | repr | min2 | max2 | bool
/-- targets -/
inductive Tg where
  | v (i : Nat)
  | t (l : Tg)
  | nil
  | cons (a l : Tg)
inductive E where
  | k (v : PV)
  | loc (i : Nat)
  | glo (i : Nat)
  | bin (mu : Bool) (o : Op) (a b : E)
  | neg (a : E)
  | not (a : E)
  | and (a b : E)
  | or (a b : E)
  | cmp (c : Cm) (a b : E)
  | cmp2 (c d : Cm) (a b e : E)
  | ite (c a b : E)
  | nil
  | cons (a l : E)
  | tup (l : E)
  | lst (mu : Bool) (l : E)
  | ix (a b : E)
  | sl (a lo hi : E)
  | rev (a : E)
  | call (f : Nat) (l : E)
  | callv (f l : E)
  | bf (mu : Bool) (b : Bf) (l : E)
  | isi (a : E) (t : Ty)
  | rng (a : E)
  | rng2 (a b : E)
  | enu (a : E)
  | zip (a b : E)
  | comp (mu : Bool) (own : List Nat) (t : Tg) (s c e : E)
  | app (o e : E)
  | popl (o : E)
  | popi (o i : E)
  | index (o e : E)
  | dget (ks : List (List Nat)) (vs k d : E)
inductive S where
  | skip
  | seq (a b : S)
  | ex (e : E)
  | ret (e : E)
  | asg (t : Tg) (e : E)
  | par (t : Tg) (l : E)
  | setix (o i e : E)
  | ite (c : E) (a b : S)
  | for_ (t : Tg) (s : E) (b : S)
  | whl (c : E) (b : S)
  | brk
  | cnt
  | raise (c : Nat)
structure Fn where
  np : Nat
  nl : Nat
  body : S
structure Prg where
  fns : List Fn
  con : List PV
/-! ### sequences -/
/-- the place of an index -/
def atI (n : Nat) (i : Int) : Option Nat :=
  if 0 ≤ i then (if i < n then some i.toNat else none) else if -(n : Int) ≤ i then some (i + n).toNat else none
def bound (n d : Nat) : Option Int → Nat
  | none => d
  | some i => if i < 0 then (i + (n : Int)).toNat else min i.toNat n
def cut {α : Type} (l : List α) (lo hi : Option Int) : List α :=
  (l.drop (bound l.length 0 lo)).take (bound l.length l.length hi - bound l.length 0 lo)
def small (i : Int) : Bool := decide (-(2 ^ 62) ≤ i) && decide (i < 2 ^ 62)
def item (m : Mem) (x i : PV) : Option PV := match vw m x, i with
  | .tup l, .int i => (atI l.length i).bind fun k => l[k]?
  | .lst l, .int i => (atI l.length i).bind fun k => l[k]?
  | .str l, .int i => (atI l.length i).bind fun k => l[k]?.map fun c => .str [c]
  | .cell k, .int i => m[k]?.bind fun l => (atI l.length i).bind fun k => l[k]?
  | _, _ => none
def optI : PV → Option (Option Int)
  | .non => some none
  | .int i => if small i then some (some i) else none
  | _ => none
def slice (m : Mem) (x lo hi : PV) : Option PV := (optI lo).bind fun a => (optI hi).bind fun b => match vw m x with
  | .tup l => some (.tup (cut l a b))
  | .lst l => some (.lst (cut l a b))
  | .str l => some (.str (cut l a b))
  | _ => none
def seqOf (m : Mem) (x : PV) : Option (List PV) := match vw m x with
  | .tup l => some l
  | .lst l => some l
  | _ => none
def firsts : List Int → List Int → List Int
  | [], acc => acc.reverse
  | i :: l, acc => if acc.contains i then firsts l acc else firsts l (i :: acc)
def insU (x : Int) : List Int → List Int
  | [] => [x]
  | y :: l => if x < y then x :: y :: l else if x = y then y :: l else y :: insU x l
def sortU : List Int → List Int
  | [] => []
  | x :: l => insU x (sortU l)
def digits : Nat → Nat → List Nat → List Nat
  | 0, _, acc => acc
  | f + 1, n, acc => if n < 10 then (48 + n) :: acc else digits f (n / 10) ((48 + n % 10) :: acc)
def showI (i : Int) : List Nat := if i < 0 then 45 :: digits 200 i.natAbs [] else digits 200 i.natAbs []
def rangeL (lo : Int) : Nat → List PV
  | 0 => []
  | n + 1 => .int lo :: rangeL (lo + 1) n
def enumL (i : Int) : List PV → List PV
  | [] => []
  | x :: l => .tup [.int i, x] :: enumL (i + 1) l
def zipL : List PV → List PV → List PV
  | x :: a, y :: b => .tup [x, y] :: zipL a b
  | _, _ => []
def boolsOf : List PV → Option (List Bool)
  | [] => some []
  | .bl b :: l => (boolsOf l).map (b :: ·)
  | _ :: _ => none
def callB (mu : Bool) (b : Bf) (l : List PV) (m : Mem) : R PV := match b, l with
  | .len, [x] => match vw m x with
    | .tup l => .ok (.int l.length) m
    | .lst l => .ok (.int l.length) m
    | .str l => .ok (.int l.length) m
    | .cell k => lft (m[k]?.map fun l => .int l.length) m
    | _ => .no
  | .abs, [.int i] => .ok (.int (if i < 0 then -i else i)) m
  | .int_, [.int i] => .ok (.int i) m
  | .tuple, [x] => match vw m x with
    | .tup l => .ok (.tup l) m
    | .lst l => .ok (.tup l) m
    | _ => .no
  | .list, [x] => match vw m x with
    | .tup l => mkl mu l m
    | .lst l => mkl mu l m
    | .cell k => match m[k]? with
      | some l => mkl mu l m
      | none => .no
    | _ => .no
  | .all, [x] => match vw m x with
    | .lst l => lft ((boolsOf l).map fun bs => .bl (bs.all id)) m
    | _ => .no
  | .any, [x] => match vw m x with
    | .lst l => lft ((boolsOf l).map fun bs => .bl (bs.any id)) m
    | _ => .no
  | .sum, [x] => match vw m x with
    | .lst l => lft ((intsOf l).map fun is => .int is.sum) m
    | _ => .no
  | .max, [x] => match vw m x with
    | .lst l => match intsOf l with
      | some (i :: is) => .ok (.int (is.foldl max i)) m
      | _ => .no
    | _ => .no
  | .min, [x] => match vw m x with
    | .lst l => match intsOf l with
      | some (i :: is) => .ok (.int (is.foldl min i)) m
      | _ => .no
    | _ => .no
  | .lenset, [x] => match seqOf m x with
    | some l => match intsOf l with
      | some is => .ok (.int (firsts is []).length) m
      | none => .no
    | none => .no
  | .sortset, [.tup l] => match intsOf l with
    | some is => if is.length < 64 then mkl mu ((sortU is).map .int) m else .no
    | none => .no
  | _, _ => .no
/-! ### evaluation -/
def asg : Tg → PV → Env → Option Env
  | .v i, x, ρ => some (ρ.set i (some x))
  | .t l, .tup xs, ρ => asg l (.tup xs) ρ
  | .nil, .tup [], ρ => some ρ
  | .cons a l, .tup (x :: xs), ρ => (asg a x ρ).bind fun ρ' => asg l (.tup xs) ρ'
  | _, _, _ => none
def wipeP (ρ : Env) : List Nat → Env
  | [] => ρ
  | v :: vs => (wipeP ρ vs).set v none
/-- the turns of a comprehension over a list -/
def compL (f : PV → Mem → R (Option PV)) : List PV → Mem → R (List PV)
  | [], m => .ok [] m
  | x :: l, m => bnd (f x m) fun o m => bnd (compL f l m) fun r m => .ok (match o with | some y => y :: r | none => r) m
def tstB (m : Mem) (v : PV) : R Bool := lft (truth m v) m
/-- one turn of a comprehension: the test, the element -/
def compT (c e : Mem → R PV) (m : Mem) : R (Option PV) :=
  bnd (noexc (c m)) fun cv m => bnd (tstB m cv) fun b m => if b then bnd (noexc (e m)) fun v m => .ok (some v) m else .ok none m
inductive Fl where
  | next
  | ret (v : PV)
  | brk
  | cnt
def forL (f : PV → Env → Mem → R (Fl × Env)) : List PV → Env → Mem → R (Fl × Env)
  | [], ρ, m => .ok (.next, ρ) m
  | x :: l, ρ, m => bnd (f x ρ m) fun q m => match q.1 with
    | .next => forL f l q.2 m
    | .cnt => forL f l q.2 m
    | .brk => .ok (.next, q.2) m
    | .ret v => .ok (.ret v, q.2) m
def whileL (c : Env → Mem → R Bool) (f : Env → Mem → R (Fl × Env)) : Nat → Env → Mem → R (Fl × Env)
  | 0, _, _ => .no
  | n + 1, ρ, m => bnd (c ρ m) fun b m => if b then bnd (f ρ m) fun q m => match q.1 with
    | .next => whileL c f n q.2 m
    | .cnt => whileL c f n q.2 m
    | .brk => .ok (.next, q.2) m
    | .ret v => .ok (.ret v, q.2) m
    else .ok (.next, ρ) m
def turns : Nat := 1000000
def unl : PV → List PV
  | .tup l => l
  | _ => []
def lkS : List (List Nat) → List PV → List Nat → Option PV
  | k :: ks, v :: vs, s => if k = s then some v else lkS ks vs s
  | _, _, _ => none
section
variable (C : List PV) (Φ : Nat → List PV → Mem → R PV)
def evE : E → Env → Mem → R PV
  | .k v, _, m => .ok v m
  | .loc i, ρ, m => match ρ[i]? with
    | some (some v) => .ok v m
    | _ => .no
  | .glo i, _, m => lft C[i]? m
  | .bin mu o a b, ρ, m => bnd (evE a ρ m) fun x m => bnd (evE b ρ m) fun y m => binop mu o x y m
  | .neg a, ρ, m => bnd (evE a ρ m) fun x m => match x with
    | .int i => .ok (.int (-i)) m
    | _ => .no
  | .not a, ρ, m => bnd (evE a ρ m) fun x m => lft ((truth m x).map fun b => .bl (!b)) m
  | .and a b, ρ, m => bnd (evE a ρ m) fun x m => match x with
    | .bl true => evE b ρ m
    | .bl false => .ok (.bl false) m
    | _ => .no
  | .or a b, ρ, m => bnd (evE a ρ m) fun x m => match x with
    | .bl true => .ok (.bl true) m
    | .bl false => evE b ρ m
    | _ => .no
  | .cmp c a b, ρ, m => bnd (evE a ρ m) fun x m => bnd (evE b ρ m) fun y m => lft ((cmpop c m x y).map .bl) m
  | .cmp2 c d a b e, ρ, m => bnd (evE a ρ m) fun x m => bnd (evE b ρ m) fun y m => match cmpop c m x y with
    | some true => bnd (evE e ρ m) fun z m => lft ((cmpop d m y z).map .bl) m
    | some false => .ok (.bl false) m
    | none => .no
  | .ite c a b, ρ, m => bnd (evE c ρ m) fun x m => match truth m x with
    | some true => evE a ρ m
    | some false => evE b ρ m
    | none => .no
  | .nil, _, m => .ok (.tup []) m
  | .cons a l, ρ, m => bnd (evE a ρ m) fun x m => bnd (evE l ρ m) fun r m => .ok (.tup (x :: unl r)) m
  | .tup l, ρ, m => bnd (evE l ρ m) fun r m => if (unl r).all PV.isD && decide ((unl r).length ≤ 1000) then .ok (.tup (unl r)) m else .no
  | .lst mu l, ρ, m => bnd (evE l ρ m) fun r m => if (unl r).length ≤ 1000 then mkl mu (unl r) m else .no
  | .ix a b, ρ, m => bnd (evE a ρ m) fun x m => bnd (evE b ρ m) fun y m => lft (item m x y) m
  | .sl a lo hi, ρ, m => bnd (evE a ρ m) fun x m => bnd (evE lo ρ m) fun y m => if (optI y).isSome then bnd (evE hi ρ m) fun z m => lft (slice m x y z) m else .no
  | .rev a, ρ, m => bnd (evE a ρ m) fun x m => match vw m x with
    | .tup l => .ok (.tup l.reverse) m
    | .lst l => .ok (.lst l.reverse) m
    | _ => .no
  | .call f l, ρ, m => bnd (evE l ρ m) fun r m => Φ f (unl r) m
  | .callv f l, ρ, m => bnd (evE f ρ m) fun g m => match g with
    | .fn i => bnd (evE l ρ m) fun r m => Φ i (unl r) m
    | _ => .no
  | .bf mu b l, ρ, m => bnd (evE l ρ m) fun r m => callB mu b (unl r) m
  | .isi a t, ρ, m => bnd (evE a ρ m) fun x m => lft ((isTy m x t).map .bl) m
  | .rng a, ρ, m => bnd (evE a ρ m) fun x m => match x with
    | .int i => if i ≤ (big : Int) ∧ small i = true then .ok (.lst (rangeL 0 i.toNat)) m else .no
    | _ => .no
  | .rng2 a b, ρ, m => bnd (evE a ρ m) fun x m => bnd (evE b ρ m) fun y m => match x, y with
    | .int i, .int j => if j - i ≤ (big : Int) ∧ small i = true ∧ small j = true then .ok (.lst (rangeL i (j - i).toNat)) m else .no
    | _, _ => .no
  | .enu a, ρ, m => bnd (evE a ρ m) fun x m => match x with
    | .tup l => .ok (.lst (enumL 0 l)) m
    | .lst l => .ok (.lst (enumL 0 l)) m
    | _ => .no
  | .zip a b, ρ, m => bnd (evE a ρ m) fun x m => bnd (evE b ρ m) fun y m => match x, y with
    | .tup l, .tup r => .ok (.lst (zipL l r)) m
    | .lst l, .lst r => .ok (.lst (zipL l r)) m
    | _, _ => .no
  | .comp mu own t s c e, ρ, m => bnd (evE s ρ m) fun sv m => match sv with
    | .tup l => bnd (compL (fun x m => match asg t x (wipeP ρ own) with
        | some ρ' => compT (evE c ρ') (evE e ρ') m
        | none => .no) l m) fun vs m => mkl mu vs m
    | .lst l => bnd (compL (fun x m => match asg t x (wipeP ρ own) with
        | some ρ' => compT (evE c ρ') (evE e ρ') m
        | none => .no) l m) fun vs m => mkl mu vs m
    | _ => .no
  | .app o e, ρ, m => bnd (evE o ρ m) fun x m => match x with
    | .cell k => bnd (evE e ρ m) fun y m => match m[k]? with
      | some l => if l.length < big then .ok .non (m.set k (l ++ [y])) else .no
      | none => .no
    | _ => .no
  | .popl o, ρ, m => bnd (evE o ρ m) fun x m => match x with
    | .cell k => match m[k]? with
      | some l => match l[l.length - 1]? with
        | some y => .ok y (m.set k l.dropLast)
        | none => .no
      | none => .no
    | _ => .no
  | .popi o i, ρ, m => bnd (evE o ρ m) fun x m => match x with
    | .cell k => bnd (evE i ρ m) fun y m => match y with
      | .int i => match m[k]? with
        | some l => match atI l.length i with
          | some j => match l[j]? with
            | some v => .ok v (m.set k (l.eraseIdx j))
            | none => .no
          | none => .no
        | none => .no
      | _ => .no
    | _ => .no
  | .index o e, ρ, m => bnd (evE o ρ m) fun x m => match seqOf m x with
    | some _ => bnd (evE e ρ m) fun y m => match seqOf m x with
      | some l => if (vw m y).isD && decide (min (depAll l) (vw m y).dep ≤ maxD) then lft ((l.findIdx? fun z => z.eqv (vw m y)).map fun i => .int i) m else .no
      | none => .no
    | none => .no
  | .dget ks vs k d, ρ, m => bnd (evE vs ρ m) fun vr m => bnd (evE k ρ m) fun x m => bnd (evE d ρ m) fun y m => match x with
    | .str s => .ok ((lkS ks (unl vr) s).getD y) m
    | _ => .no
def evS : S → Env → Mem → R (Fl × Env)
  | .skip, ρ, m => .ok (.next, ρ) m
  | .seq a b, ρ, m => bnd (evS a ρ m) fun q m => match q.1 with
    | .next => evS b q.2 m
    | f => .ok (f, q.2) m
  | .ex e, ρ, m => bnd (evE C Φ e ρ m) fun _ m => .ok (.next, ρ) m
  | .ret e, ρ, m => bnd (evE C Φ e ρ m) fun v m => .ok (.ret v, ρ) m
  | .asg t e, ρ, m => bnd (evE C Φ e ρ m) fun v m => lft ((asg t v ρ).map fun ρ' => (.next, ρ')) m
  | .par t l, ρ, m => bnd (evE C Φ l ρ m) fun v m => lft ((asg t v ρ).map fun ρ' => (.next, ρ')) m
  | .setix o i e, ρ, m => bnd (evE C Φ e ρ m) fun v m => bnd (evE C Φ o ρ m) fun x m => bnd (evE C Φ i ρ m) fun y m => match x, y with
    | .cell k, .int i => match m[k]? with
      | some l => match atI l.length i with
        | some j => .ok (.next, ρ) (m.set k (l.set j v))
        | none => .no
      | none => .no
    | _, _ => .no
  | .ite c a b, ρ, m => bnd (evE C Φ c ρ m) fun x m => match truth m x with
    | some true => evS a ρ m
    | some false => evS b ρ m
    | none => .no
  | .for_ t s b, ρ, m => bnd (evE C Φ s ρ m) fun sv m => match sv with
    | .tup l => forL (fun x ρ m => match asg t x ρ with
        | some ρ' => evS b ρ' m
        | none => .no) l ρ m
    | .lst l => forL (fun x ρ m => match asg t x ρ with
        | some ρ' => evS b ρ' m
        | none => .no) l ρ m
    | _ => .no
  | .whl c b, ρ, m => whileL (fun ρ m => bnd (evE C Φ c ρ m) fun v m => tstB m v) (fun ρ m => evS b ρ m) turns ρ m
  | .brk, ρ, m => .ok (.brk, ρ) m
  | .cnt, ρ, m => .ok (.cnt, ρ) m
  | .raise c, _, m => .exc ⟨c, .non⟩ m
end
def fin (q : Fl × Env) (m : Mem) : R PV := match q.1 with
  | .ret v => .ok v m
  | .next => .ok .non m
  | _ => .no
def run (P : Prg) : Nat → Nat → List PV → Mem → R PV
  | 0, _, _, _ => .no
  | n + 1, f, args, m => match P.fns[f]? with
    | some F => if args.length = F.np then bnd (evS P.con (run P n) F.body (args.map some ++ List.replicate (F.nl - F.np) none) m) fin else .no
    | none => .no
end Pv
namespace Pv
open PySem PySem.Spec PyProof.Rows L2
/-! ## The evaluator is sound: the relations -/
section
variable (K : PySem.W.Frag) (H : Hp)
/-- a list that nobody writes any more -/
def FL (a : Addr) (xs : List V) : Prop := ∃ o, H a = some (.frz o (.lst xs))
mutual
inductive Fz : V → PV → Prop
  | non : Fz .non .non
  | bl (b : Bool) : Fz (.bl b) (.bl b)
  | int (i : Int) : Fz (.int i) (.int i)
  | str (s : List Nat) (ok : PyData.strOk ⟨s.toArray⟩ = true) (sz : s.length ≤ sizeLine) : Fz (.str ⟨s.toArray⟩) (.str s)
  | tup {a : Addr} {xs : List V} {l : List PV} : SqT K H a xs → xs.length ≤ sizeLine → FzAll xs l → Fz (.ref a) (.tup l)
  | lst {a : Addr} {xs : List V} {l : List PV} : FL H a xs → xs.length ≤ sizeLine → FzAll xs l → Fz (.ref a) (.lst l)
inductive FzAll : List V → List PV → Prop
  | nil : FzAll [] []
  | cons {v : V} {vs : List V} {d : PV} {ds : List PV} : Fz v d → FzAll vs ds → FzAll (v :: vs) (d :: ds)
end
end
/-- what is read stays -/
structure Ext (H H' : Hp) : Prop where
  tup : ∀ a xs, H a = some (.tup xs) → H' a = some (.tup xs)
  frz : ∀ a o u, H a = some (.frz o u) → H' a = some (.frz o u)
section
variable {K : PySem.W.Frag} {H H' H2 : Hp}
theorem Ext.refl : Ext H H := ⟨fun _ _ e => e, fun _ _ _ e => e⟩
theorem Ext.trans (a : Ext H H') (b : Ext H' H2) : Ext H H2 := ⟨fun x y e => b.tup x y (a.tup x y e), fun x y z e => b.frz x y z (a.frz x y z e)⟩
theorem Ext.new {p : Addr} {o : HO} (h : H p = none) : Ext H (L2.upd H p o) :=
  ⟨fun a xs e => by rw [upd_ne (ne_of_none e h)]; exact e, fun a o' u e => by rw [upd_ne (ne_of_none e h)]; exact e⟩
theorem Ext.set {p : Addr} {xs : List V} {o : HO} (h : H p = some (.lst xs)) : Ext H (L2.upd H p o) :=
  ⟨fun a ys e => by
    rw [upd_ne (ne_of e h (by intro z; cases z))]; exact e, fun a o' u e => by
    rw [upd_ne (ne_of e h (by intro z; cases z))]; exact e⟩
theorem SqT.ext {a : Addr} {xs : List V} (e : Ext H H') (h : SqT K H a xs) : SqT K H' a xs := by
  rcases h with (h | ⟨o, h⟩) | h
  · exact .inl (.inl (e.tup _ _ h))
  · exact .inl (.inr ⟨o, e.frz _ _ _ h⟩)
  · exact .inr h
theorem FL.ext {a : Addr} {xs : List V} (e : Ext H H') (h : FL H a xs) : FL H' a xs := by
  obtain ⟨o, h⟩ := h
  exact ⟨o, e.frz _ _ _ h⟩
theorem FL.sq {K : PySem.W.Frag} {a : Addr} {xs : List V} (h : FL H a xs) : SqL K H a xs := .inl (.inr h)
mutual
theorem Fz.ext (e : Ext H H') : ∀ {v : V} {d : PV}, Fz K H v d → Fz K H' v d
  | _, _, .non => .non
  | _, _, .bl b => .bl b
  | _, _, .int i => .int i
  | _, _, .str s ok sz => .str s ok sz
  | _, _, .tup h z a => .tup (SqT.ext e h) z (FzAll.ext e a)
  | _, _, .lst h z a => .lst (FL.ext e h) z (FzAll.ext e a)
theorem FzAll.ext (e : Ext H H') : ∀ {vs : List V} {ds : List PV}, FzAll K H vs ds → FzAll K H' vs ds
  | _, _, .nil => .nil
  | _, _, .cons a b => .cons (Fz.ext e a) (FzAll.ext e b)
end
theorem FzAll.length : ∀ {vs : List V} {ds : List PV}, FzAll K H vs ds → vs.length = ds.length
  | _, _, .nil => rfl
  | _, _, .cons _ b => by simp [FzAll.length b]
theorem FzAll.get : ∀ {vs : List V} {ds : List PV} {i : Nat} {d : PV}, FzAll K H vs ds → ds[i]? = some d → ∃ v, vs[i]? = some v ∧ Fz K H v d
  | _, _, _, _, .nil, e => by simp at e
  | _, _, 0, _, .cons r _, e => by simp at e; subst e; exact ⟨_, rfl, r⟩
  | _, _, i + 1, _, .cons _ t, e => by
    obtain ⟨u, h1, h2⟩ := FzAll.get (i := i) t (by simpa using e)
    exact ⟨u, by simpa using h1, h2⟩
theorem FzAll.get' : ∀ {vs : List V} {ds : List PV} {i : Nat} {v : V}, FzAll K H vs ds → vs[i]? = some v → ∃ d, ds[i]? = some d ∧ Fz K H v d
  | _, _, _, _, .nil, e => by simp at e
  | _, _, 0, _, .cons r _, e => by simp at e; subst e; exact ⟨_, rfl, r⟩
  | _, _, i + 1, _, .cons _ t, e => by
    obtain ⟨u, h1, h2⟩ := FzAll.get' (i := i) t (by simpa using e)
    exact ⟨u, by simpa using h1, h2⟩
theorem FzAll.append : ∀ {xs ys : List V} {us ws : List PV}, FzAll K H xs us → FzAll K H ys ws → FzAll K H (xs ++ ys) (us ++ ws)
  | _, _, _, _, .nil, s => s
  | _, _, _, _, .cons r t, s => .cons r (FzAll.append t s)
theorem FzAll.take : ∀ {xs : List V} {us : List PV} (n : Nat), FzAll K H xs us → FzAll K H (xs.take n) (us.take n)
  | _, _, 0, _ => .nil
  | _, _, _ + 1, .nil => .nil
  | _, _, n + 1, .cons r t => .cons r (FzAll.take n t)
theorem FzAll.drop : ∀ {xs : List V} {us : List PV} (n : Nat), FzAll K H xs us → FzAll K H (xs.drop n) (us.drop n)
  | _, _, 0, r => r
  | _, _, _ + 1, .nil => .nil
  | _, _, n + 1, .cons _ t => FzAll.drop n t
theorem FzAll.rep {xs : List V} {us : List PV} (h : FzAll K H xs us) : ∀ n : Nat, FzAll K H (List.replicate n xs).flatten (rep us n)
  | 0 => .nil
  | n + 1 => by
    rw [List.replicate_succ, List.flatten_cons]
    exact FzAll.append h (FzAll.rep h n)
theorem FzAll.reverse {xs : List V} {us : List PV} (h : FzAll K H xs us) : FzAll K H xs.reverse us.reverse := by
  cases h with
  | nil => exact .nil
  | cons a b =>
    rw [List.reverse_cons, List.reverse_cons]
    exact FzAll.append (FzAll.reverse b) (.cons a .nil)
  termination_by us.length
/-! ### to the library's data -/
mutual
def PV.dat : PV → PyData
  | .non => .none
  | .bl b => .bool b
  | .int i => .int i
  | .str s => .str ⟨s.toArray⟩
  | .tup l => .tuple (datAll l)
  | .lst l => .list (datAll l)
  | .cell _ => .none
  | .fn _ => .none
def datAll : List PV → List PyData
  | [] => []
  | x :: l => x.dat :: datAll l
end
mutual
theorem Fz.dp : ∀ {v : V} {d : PV}, Fz K H v d → Dp K H v d.dat
  | _, _, .non => by rw [PV.dat]; exact .non
  | _, _, .bl b => by rw [PV.dat]; exact .bl b
  | _, _, .int i => by rw [PV.dat]; exact .int i
  | _, _, .str s ok sz => by rw [PV.dat]; exact .str _
  | _, _, .tup h z a => by rw [PV.dat]; exact .tup h (FzAll.dp a)
  | _, _, .lst h z a => by rw [PV.dat]; exact .lst h.sq (FzAll.dp a)
theorem FzAll.dp : ∀ {vs : List V} {ds : List PV}, FzAll K H vs ds → DpAll K H vs (datAll ds)
  | _, _, .nil => by rw [datAll]; exact .nil
  | _, _, .cons a b => by rw [datAll]; exact .cons (Fz.dp a) (FzAll.dp b)
end
mutual
theorem Fz.lay : ∀ {v : V} {d : PV}, Fz K H v d → d.dat.canLay0 = true
  | _, _, .non => by simp [PV.dat, PyData.canLay0]
  | _, _, .bl b => by simp [PV.dat, PyData.canLay0]
  | _, _, .int i => by simp [PV.dat, PyData.canLay0]
  | _, _, .str s ok sz => by simp only [PV.dat, PyData.canLay0]; exact ok
  | _, _, .tup h z a => by simp only [PV.dat, PyData.canLay0]; exact FzAll.lay a
  | _, _, .lst h z a => by simp only [PV.dat, PyData.canLay0]; exact FzAll.lay a
theorem FzAll.lay : ∀ {vs : List V} {ds : List PV}, FzAll K H vs ds → PyData.canLayAll0 (datAll ds) = true
  | _, _, .nil => by simp [datAll, PyData.canLayAll0]
  | _, _, .cons a b => by simp only [datAll, PyData.canLayAll0, Fz.lay a, FzAll.lay b, Bool.and_self]
end
mutual
theorem dat_dep : ∀ d : PV, d.dat.depth = d.dep
  | .non => by simp [PV.dat, PyData.depth, PV.dep]
  | .bl b => by simp [PV.dat, PyData.depth, PV.dep]
  | .int b => by simp [PV.dat, PyData.depth, PV.dep]
  | .str b => by simp [PV.dat, PyData.depth, PV.dep]
  | .tup l => by simp only [PV.dat, PyData.depth, PV.dep, dat_depAll l]
  | .lst l => by simp only [PV.dat, PyData.depth, PV.dep, dat_depAll l]
  | .cell b => by simp [PV.dat, PyData.depth, PV.dep]
  | .fn b => by simp [PV.dat, PyData.depth, PV.dep]
theorem dat_depAll : ∀ l : List PV, PyData.depthAll (datAll l) = depAll l
  | [] => by simp [datAll, PyData.depthAll, depAll]
  | x :: l => by simp only [datAll, PyData.depthAll, depAll, dat_dep x, dat_depAll l]
end
theorem str_beq' (a b : List Nat) : ((⟨a.toArray⟩ : Str) == ⟨b.toArray⟩) = (a == b) := by
  rw [Bool.eq_iff_iff, beq_iff_eq, beq_iff_eq]
  constructor
  · intro h
    have h2 : a.toArray = b.toArray := by injection h
    simpa using congrArg Array.toList h2
  · intro h; rw [h]
mutual
theorem eqv_dat : ∀ {v w : V} {d e : PV}, Fz K H v d → Fz K H w e → PyData.eqv d.dat e.dat = d.eqv e
  | _, _, _, _, .non, b => by cases b <;> simp [PV.dat, PyData.eqv, PV.eqv]
  | _, _, _, _, .bl _, b => by cases b <;> simp [PV.dat, PyData.eqv, PV.eqv, b2]
  | _, _, _, _, .int _, b => by cases b <;> simp [PV.dat, PyData.eqv, PV.eqv, b2]
  | _, _, _, _, .str s _ _, b => by
    cases b with
    | str t _ _ => simp only [PV.dat, PyData.eqv, PV.eqv, str_beq']
    | _ => simp [PV.dat, PyData.eqv, PV.eqv]
  | _, _, _, _, .tup _ _ a, b => by
    cases b with
    | tup _ _ b => simp only [PV.dat, PyData.eqv, PV.eqv]; exact eqv_datAll a b
    | _ => simp [PV.dat, PyData.eqv, PV.eqv]
  | _, _, _, _, .lst _ _ a, b => by
    cases b with
    | lst _ _ b => simp only [PV.dat, PyData.eqv, PV.eqv]; exact eqv_datAll a b
    | _ => simp [PV.dat, PyData.eqv, PV.eqv]
theorem eqv_datAll : ∀ {vs ws : List V} {ds es : List PV}, FzAll K H vs ds → FzAll K H ws es → PyData.eqvAll (datAll ds) (datAll es) = eqvAll ds es
  | _, _, _, _, .nil, b => by cases b <;> simp [datAll, PyData.eqvAll, eqvAll]
  | _, _, _, _, .cons a as, b => by
    cases b with
    | nil => simp [datAll, PyData.eqvAll, eqvAll]
    | cons b bs => simp only [datAll, PyData.eqvAll, eqvAll, eqv_dat a b, eqv_datAll as bs]
end
end
end Pv
namespace Pv
open PySem PySem.Spec PyProof.Rows L2
/-! ### the text's surroundings -/
structure Glo where
  P : Program
  w : World
  K : PySem.W.Frag
  mg : Str → Option Value
  base : Heap
  pr : Prg
  fa : List Addr
  fx : List Str
  cx : List Str
  ca : List Addr
  kx : List Str
  bx : List Str
structure GOk (G : Glo) : Prop where
  con : ∀ (i : Nat) (x : Str), G.cx[i]? = some x → ∃ v u y, G.pr.con[i]? = some v ∧ G.mg x = some u ∧ RelV y u ∧ ∀ H, Fz G.K H y v
  fn : ∀ (i : Nat) (x : Str), G.fx[i]? = some x → ∃ a, G.fa[i]? = some a ∧ G.mg x = some (.ref a) ∧ PySem.W.keepIn G.K (.ref a) = true
  bt : ∀ x ∈ G.bx, G.mg x = none
  cls : ∀ (i : Nat) (x : Str), G.kx[i]? = some x → ∃ C, G.ca[i]? = some C ∧ G.mg x = some (.ref C) ∧ PySem.W.excIn G.K C He.veBase "ValueError.__new__" = true ∧ PySem.W.keepIn G.K (.ref C) = true ∧
    PySem.W.subIn G.K (.ref C) (.type "BaseException") = some true ∧ PySem.W.typeIn G.K (.ref C) = some (.type "type")
abbrev Al := List Addr
def Le (α β : Al) : Prop := ∀ (k : Nat) (a : Addr), α[k]? = some a → β[k]? = some a
theorem Le.refl {α : Al} : Le α α := fun _ _ e => e
theorem Le.trans {α β γ : Al} (a : Le α β) (b : Le β γ) : Le α γ := fun k x e => b k x (a k x e)
theorem Le.snoc {α : Al} {p : Addr} : Le α (α ++ [p]) := fun k a e => by
  rw [List.getElem?_append_left (by have := (List.getElem?_eq_some_iff.mp e).1; omega)]; exact e
/-- a step: what is read stays, cells are new, what is no cell stays -/
structure Stp (H : Hp) (α : Al) (H' : Hp) (α' : Al) : Prop where
  ext : Ext H H'
  le : Le α α'
  new : ∀ a ∈ α', a ∈ α ∨ H a = none
  keep : ∀ a o, H a = some o → a ∉ α → H' a = some o
  there : ∀ a, H a ≠ none → H' a ≠ none
theorem Stp.refl {H : Hp} {α : Al} : Stp H α H α := ⟨Ext.refl, Le.refl, fun _ h => .inl h, fun _ _ e _ => e, fun _ h => h⟩
theorem Stp.trans {H H1 H2 : Hp} {α α1 α2 : Al} (a : Stp H α H1 α1) (b : Stp H1 α1 H2 α2) : Stp H α H2 α2 :=
  ⟨a.ext.trans b.ext, a.le.trans b.le, fun x hx => by
    rcases b.new x hx with h | h
    · exact a.new x h
    · refine .inr ?_
      cases e : H x with
      | none => rfl
      | some o => exact absurd h (a.there x (by rw [e]; exact Option.some_ne_none _)),
   fun x o e hx => b.keep x o (a.keep x o e hx) fun z => by
     rcases a.new x z with h | h
     · exact hx h
     · exact absurd (h.symm.trans e) (by simp),
   fun x h => b.there x (a.there x h)⟩
theorem upd_there {H : Hp} {p : Addr} {o : HO} (a : Addr) (h : H a ≠ none) : L2.upd H p o a ≠ none := by
  unfold L2.upd
  split
  · exact Option.some_ne_none _
  · exact h
theorem Stp.laid {H : Hp} {α : Al} {p : Addr} {o : HO} (hp : H p = none) : Stp H α (L2.upd H p o) α :=
  ⟨Ext.new hp, Le.refl, fun _ h => .inl h, fun a u e _ => by rw [upd_ne (ne_of_none e hp)]; exact e, fun a h => upd_there a h⟩
theorem Stp.snoc {H : Hp} {α : Al} {p : Addr} {o : HO} (hp : H p = none) : Stp H α (L2.upd H p o) (α ++ [p]) :=
  ⟨Ext.new hp, Le.snoc, fun a h => by
    rcases List.mem_append.mp h with h | h
    · exact .inl h
    · have e : a = p := by simpa using h
      rw [e]; exact .inr hp, fun a u e _ => by rw [upd_ne (ne_of_none e hp)]; exact e, fun a h => upd_there a h⟩
theorem Stp.set {H : Hp} {α : Al} {p : Addr} {xs : List V} {o : HO} (hp : H p = some (.lst xs)) (hm : p ∈ α) : Stp H α (L2.upd H p o) α :=
  ⟨Ext.set hp, Le.refl, fun _ h => .inl h, fun a u e hn => by
    rw [upd_ne (fun z => hn (by rw [z]; exact hm))]; exact e, fun a h => upd_there a h⟩
inductive Rp (G : Glo) (H : Hp) (α : Al) : V → PV → Prop
  | d {x : V} {v : PV} : Fz G.K H x v → Rp G H α x v
  | cell {k : Nat} {a : Addr} : α[k]? = some a → Rp G H α (.ref a) (.cell k)
  | fn {i : Nat} {a : Addr} : G.fa[i]? = some a → Rp G H α (.ref a) (.fn i)
abbrev RpAll (G : Glo) (H : Hp) (α : Al) : List V → List PV → Prop := Paired (Rp G H α)
theorem nd_ix {l : List Addr} (hN : l.Nodup) {i j : Nat} {x : Addr} (a : l[i]? = some x) (b : l[j]? = some x) : i = j := by
  obtain ⟨h1, e1⟩ := List.getElem?_eq_some_iff.mp a
  obtain ⟨h2, e2⟩ := List.getElem?_eq_some_iff.mp b
  exact (List.getElem_inj hN).mp (e1.trans e2.symm)
structure MemR (G : Glo) (H : Hp) (α : Al) (m : Mem) : Prop where
  len : α.length = m.length
  nd : α.Nodup
  at_ : ∀ (k : Nat) (a : Addr) (l : List PV), α[k]? = some a → m[k]? = some l → ∃ xs, H a = some (.lst xs) ∧ RpAll G H α xs l ∧ xs.length ≤ sizeLine
structure EnvR (G : Glo) (H : Hp) (α : Al) (ρ : Env) (σ : L2.St) : Prop where
  len : ρ.length = σ.length
  at_ : ∀ (i : Nat) (v : PV), ρ[i]? = some (some v) → ∃ x, σ[i]? = some (some x) ∧ Rp G H α x v
section
variable {G : Glo} {H H' H2 : Hp} {α α' β : Al}
theorem Fz.isD {K : PySem.W.Frag} {x : V} {v : PV} (h : Fz K H x v) : v.isD = true := by cases h <;> rfl
theorem Rp.fz {x : V} {v : PV} (h : Rp G H α x v) (d : v.isD = true) : Fz G.K H x v := by
  cases h with
  | d h => exact h
  | cell _ => cases d
  | fn _ => cases d
theorem Rp.ext (e : Ext H H') (l : Le α α') {x : V} {v : PV} (h : Rp G H α x v) : Rp G H' α' x v := by
  cases h with
  | d h => exact .d (h.ext e)
  | cell h => exact .cell (l _ _ h)
  | fn h => exact .fn h
theorem RpAll.ext (e : Ext H H') (l : Le α α') {xs : List V} {vs : List PV} (h : RpAll G H α xs vs) : RpAll G H' α' xs vs := Paired.mapP h fun _ _ r => r.ext e l
theorem RpAll.fz : ∀ {xs : List V} {vs : List PV}, RpAll G H α xs vs → vs.all PV.isD = true → FzAll G.K H xs vs
  | _, _, .nil, _ => .nil
  | _, _, .cons a b, h => by
    rw [List.all_cons, Bool.and_eq_true] at h
    exact .cons (a.fz h.1) (RpAll.fz b h.2)
theorem FzAll.rp : ∀ {xs : List V} {vs : List PV}, FzAll G.K H xs vs → RpAll G H α xs vs
  | _, _, .nil => .nil
  | _, _, .cons a b => .cons (.d a) (FzAll.rp b)
theorem FzAll.all {K : PySem.W.Frag} : ∀ {xs : List V} {vs : List PV}, FzAll K H xs vs → vs.all PV.isD = true
  | _, _, .nil => rfl
  | _, _, .cons a b => by rw [List.all_cons, a.isD, FzAll.all b]; rfl
theorem Paired.get' {α β : Type} {F : α → β → Prop} : ∀ {l₁ : List α} {l₂ : List β} {i : Nat} {y : β}, Paired F l₁ l₂ → l₂[i]? = some y → ∃ x, l₁[i]? = some x ∧ F x y
  | _, _, _, _, .nil, e => by simp at e
  | _, _, 0, _, .cons r _, e => by simp at e; subst e; exact ⟨_, rfl, r⟩
  | _, _, i + 1, _, .cons _ t, e => by
    obtain ⟨u, h1, h2⟩ := Paired.get' (i := i) t (by simpa using e)
    exact ⟨u, by simpa using h1, h2⟩
theorem Paired.append' {α β : Type} {F : α → β → Prop} : ∀ {a b : List α} {c d : List β}, Paired F a c → Paired F b d → Paired F (a ++ b) (c ++ d)
  | _, _, _, _, .nil, s => s
  | _, _, _, _, .cons r t, s => .cons r (Paired.append' t s)
theorem Paired.set' {α β : Type} {F : α → β → Prop} {x : α} {y : β} (r : F x y) : ∀ {a : List α} {c : List β} (i : Nat), Paired F a c → Paired F (a.set i x) (c.set i y)
  | _, _, _, .nil => .nil
  | _, _, 0, .cons _ t => .cons r t
  | _, _, i + 1, .cons q t => .cons q (Paired.set' r i t)
theorem Paired.take' {α β : Type} {F : α → β → Prop} : ∀ {a : List α} {c : List β} (i : Nat), Paired F a c → Paired F (a.take i) (c.take i)
  | _, _, 0, _ => .nil
  | _, _, _ + 1, .nil => .nil
  | _, _, i + 1, .cons q t => .cons q (Paired.take' i t)
theorem Paired.drop' {α β : Type} {F : α → β → Prop} : ∀ {a : List α} {c : List β} (i : Nat), Paired F a c → Paired F (a.drop i) (c.drop i)
  | _, _, 0, r => r
  | _, _, _ + 1, .nil => .nil
  | _, _, i + 1, .cons q t => Paired.drop' i t
theorem EnvR.ext (e : Ext H H') (l : Le α α') {ρ : Env} {σ : L2.St} (h : EnvR G H α ρ σ) : EnvR G H' α' ρ σ :=
  ⟨h.len, fun i v q => let ⟨x, h1, h2⟩ := h.at_ i v q; ⟨x, h1, h2.ext e l⟩⟩
theorem EnvR.set {ρ : Env} {σ : L2.St} (h : EnvR G H α ρ σ) {x : V} {v : PV} (r : Rp G H α x v) (i : Nat) : EnvR G H α (ρ.set i (some v)) (σ.set i (some x)) := by
  refine ⟨by rw [List.length_set, List.length_set]; exact h.len, fun j w q => ?_⟩
  by_cases hj : i = j
  · subst hj
    by_cases hi : i < ρ.length
    · rw [List.getElem?_set_self hi] at q
      cases q
      exact ⟨x, by rw [List.getElem?_set_self (by rw [← h.len]; exact hi)], r⟩
    · rw [List.getElem?_eq_none (by rw [List.length_set]; omega)] at q; cases q
  · rw [List.getElem?_set_ne hj] at q
    obtain ⟨y, h1, h2⟩ := h.at_ j w q
    exact ⟨y, by rw [List.getElem?_set_ne hj]; exact h1, h2⟩
theorem EnvR.none {ρ : Env} {σ : L2.St} (h : EnvR G H α ρ σ) (i : Nat) : EnvR G H α (ρ.set i none) (σ.set i none) := by
  refine ⟨by rw [List.length_set, List.length_set]; exact h.len, fun j w q => ?_⟩
  by_cases hj : i = j
  · subst hj
    by_cases hi : i < ρ.length
    · rw [List.getElem?_set_self hi] at q
      cases q
    · rw [List.getElem?_eq_none (by rw [List.length_set]; omega)] at q; cases q
  · rw [List.getElem?_set_ne hj] at q
    obtain ⟨y, h1, h2⟩ := h.at_ j w q
    exact ⟨y, by rw [List.getElem?_set_ne hj]; exact h1, h2⟩
theorem EnvR.wipe {ρ : Env} {σ : L2.St} (h : EnvR G H α ρ σ) : ∀ vs : List Nat, EnvR G H α (wipeP ρ vs) (L2.wipe σ vs)
  | [] => h
  | v :: vs => (EnvR.wipe h vs).none v
/-- a new object beside the cells -/
theorem MemR.upd {m : Mem} {p : Addr} {o : HO} (h : MemR G H α m) (hp : H p = none) : MemR G (L2.upd H p o) α m :=
  ⟨h.len, h.nd, fun k a l e1 e2 => by
    obtain ⟨xs, h1, h2, h3⟩ := h.at_ k a l e1 e2
    exact ⟨xs, by rw [upd_ne (ne_of_none h1 hp)]; exact h1, h2.ext (Ext.new hp) Le.refl, h3⟩⟩
theorem MemR.mem {m : Mem} (h : MemR G H α m) {a : Addr} (ha : a ∈ α) : ∃ xs, H a = some (.lst xs) := by
  obtain ⟨k, hk, e⟩ := List.mem_iff_getElem.mp ha
  have e1 : α[k]? = some a := by rw [List.getElem?_eq_getElem hk, e]
  have hk2 : k < m.length := by rw [← h.len]; exact hk
  obtain ⟨xs, h1, _⟩ := h.at_ k a m[k] e1 (List.getElem?_eq_getElem hk2)
  exact ⟨xs, h1⟩
/-- a new cell -/
theorem MemR.snoc {m : Mem} {p : Addr} {xs : List V} {l : List PV} (h : MemR G H α m) (hp : H p = none) (r : RpAll G H α xs l) (z : xs.length ≤ sizeLine) : MemR G (L2.upd H p (.lst xs)) (α ++ [p]) (m ++ [l]) := by
  refine ⟨by simp [h.len], ?_, fun k a l' e1 e2 => ?_⟩
  · rw [List.nodup_append]
    refine ⟨h.nd, by simp, fun a ha b hb => ?_⟩
    have e : b = p := by simpa using hb
    subst e
    obtain ⟨ys, q⟩ := h.mem ha
    exact ne_of_none q hp
  · have hE : Ext H (L2.upd H p (.lst xs)) := Ext.new hp
    by_cases hk : k < α.length
    · rw [List.getElem?_append_left hk] at e1
      rw [List.getElem?_append_left (by rw [← h.len]; exact hk)] at e2
      obtain ⟨ys, h1, h2, h3⟩ := h.at_ k a l' e1 e2
      exact ⟨ys, by rw [upd_ne (ne_of_none h1 hp)]; exact h1, h2.ext hE Le.snoc, h3⟩
    · have hk2 : k = α.length := by
        have := (List.getElem?_eq_some_iff.mp e1).1
        simp at this; omega
      subst hk2
      rw [List.getElem?_append_right (Nat.le_refl _)] at e1
      simp at e1
      subst e1
      rw [h.len, List.getElem?_append_right (Nat.le_refl _)] at e2
      simp at e2
      subst e2
      exact ⟨xs, upd_same, r.ext hE Le.snoc, z⟩
/-- a cell changed -/
theorem MemR.set {m : Mem} {k : Nat} {a : Addr} {xs ys : List V} {l : List PV} (h : MemR G H α m) (ha : α[k]? = some a) (hx : H a = some (.lst xs)) (r : RpAll G H α ys l) (z : ys.length ≤ sizeLine) : MemR G (L2.upd H a (.lst ys)) α (m.set k l) := by
  have hE : Ext H (L2.upd H a (.lst ys)) := Ext.set hx
  refine ⟨by simp [h.len], h.nd, fun j b l' e1 e2 => ?_⟩
  have hk : k < m.length := by rw [← h.len]; exact (List.getElem?_eq_some_iff.mp ha).1
  by_cases hj : k = j
  · subst hj
    rw [ha] at e1; cases e1
    rw [List.getElem?_set_self hk] at e2; cases e2
    exact ⟨ys, upd_same, r.ext hE Le.refl, z⟩
  · rw [List.getElem?_set_ne hj] at e2
    obtain ⟨zs, h1, h2, h3⟩ := h.at_ j b l' e1 e2
    refine ⟨zs, ?_, h2.ext hE Le.refl, h3⟩
    rw [upd_ne]
    · exact h1
    · rintro rfl
      exact hj (nd_ix h.nd ha e1)
end
/-! ### what follows -/
abbrev EW := Value → Option Addr → Hp → Prop
def XnR (G : Glo) (x : Xn) (C : Value) (d : Option Addr) : Prop := ∃ a, G.ca[x.c]? = some a ∧ C = .ref a ∧ d = none
def Post {β γ : Type} (G : Glo) (rel : Hp → Al → β → γ → Prop) (r : R γ) (H : Hp) (α : Al) (Q : β → Hp → Prop) (E : EW) : Prop := match r with
  | .ok v m' => ∀ x H' α', Stp H α H' α' → rel H' α' x v → MemR G H' α' m' → Q x H'
  | .exc xn m' => ∀ C d H' α', Stp H α H' α' → MemR G H' α' m' → XnR G xn C d → E C d H'
  | .no => False
section
variable {G : Glo} {H H1 : Hp} {α α1 : Al} {β γ β' γ' : Type} {rel : Hp → Al → β → γ → Prop} {rel' : Hp → Al → β' → γ' → Prop} {E : EW}
theorem Post.base {r : R γ} {Q : β → Hp → Prop} (h : Post G rel r H α Q E) (e : Stp H α H1 α1) : Post G rel r H1 α1 Q E := by
  cases r with
  | ok v m => exact fun x H' α' e' => h x H' α' (e.trans e')
  | exc x m => exact fun C d H' α' e' => h C d H' α' (e.trans e')
  | no => exact h
theorem Post.bnd {r : R γ} {f : γ → Mem → R γ'} {Q : β' → Hp → Prop} {S : β → Hp → Prop} (h : Post G rel' (bnd r f) H α Q E)
    (k : ∀ v m' x H1 α1, Stp H α H1 α1 → rel H1 α1 x v → MemR G H1 α1 m' → Post G rel' (f v m') H1 α1 Q E → S x H1) : Post G rel r H α S E := by
  cases r with
  | ok v m => exact fun x H' α' e r me => k v m x H' α' e r me (Post.base (r := f v m) h e)
  | exc x m => exact h
  | no => exact h
theorem Post.mono {r : R γ} {Q Q' : β → Hp → Prop} (h : Post G rel r H α Q E) (k : ∀ x H', Q x H' → Q' x H') : Post G rel r H α Q' E := by
  cases r with
  | ok v m => exact fun x H' α' e r me => k x H' (h x H' α' e r me)
  | exc x m => exact h
  | no => exact h
theorem Post.ok {v : γ} {m : Mem} {Q : β → Hp → Prop} {x : β} (h : Post G rel (.ok v m) H α Q E) (r : rel H α x v) (me : MemR G H α m) : Q x H := h x H α Stp.refl r me
end
/-! ### the frame of a def's body -/
structure CG (G : Glo) (n : Nat) (N : List Str) (sc : Scope) (W : WX) (X : Cx) : Prop where
  prog : X.prog = G.P
  w : X.w = G.w
  K : X.K = G.K
  mg : X.mg = G.mg
  base : X.base = G.base
  nm : X.N = N
  nd : List.Nodup N
  kind : sc.kind = .function
  sc : X.env.scope = sc
  room : Room (n + 5) X.A
  calm : X.calm = true
  tk : Takes X W
  hp : PassesOwn (model X.prog X.w) X.A X.env X.xe
/-- what the defs promise at a level -/
def spF (G : Glo) (n : Nat) (i np : Nat) : Sp := fun vs H Q E => vs.length = np ∧ ∃ α m l, RpAll G H α vs l ∧ MemR G H α m ∧ Post G (Rp G) (run G.pr n i l m) H α Q E
def FnsOk (G : Glo) (n : Nat) : Prop := ∀ (i : Nat) (a : Addr), G.fa[i]? = some a → ∃ F fd ps, G.pr.fns[i]? = some F ∧ ps.length = F.np ∧ FnOk G.P G.w G.K G.mg G.base (CX G.P G.w) (n + 5) a fd ps (spF G n i F.np) ∧ Binds G.K fd ps [] ∧ PySem.W.keepIn G.K (.ref a) = true
abbrev wE (W : WX) (σ : L2.St) : EW := fun C d H => W C d σ H
section
variable (G : Glo) (n : Nat) (W : WX)
def tE (c : E) : TE := fun σ H Q => ∃ α ρ m, EnvR G H α ρ σ ∧ MemR G H α m ∧ Post G (Rp G) (evE G.pr.con (run G.pr n) c ρ m) H α Q (wE W σ)
def tT (c : E) : TT := fun σ H Q => ∃ α ρ m, EnvR G H α ρ σ ∧ MemR G H α m ∧ Post G (fun _ _ (b : Bool) (b' : Bool) => b = b') (bnd (evE G.pr.con (run G.pr n) c ρ m) fun v m => tstB m v) H α Q (wE W σ)
def tA (c : E) : TA := fun σ H Q => ∃ α ρ m, EnvR G H α ρ σ ∧ MemR G H α m ∧ Post G (fun H α xs r => RpAll G H α xs (unl r)) (evE G.pr.con (run G.pr n) c ρ m) H α Q (wE W σ)
end
theorem PE.weak {X : Cx} {e : Expr} {t t' : TE} (h : PE X e t) (k : ∀ σ H Q, t' σ H Q → t σ H Q) : PE X e t' := ⟨fun pins s σ H Q I q => h.run pins s σ H Q I (k _ _ _ q)⟩
theorem PT.weak {X : Cx} {e : Expr} {t t' : TT} (h : PT X e t) (k : ∀ σ H Q, t' σ H Q → t σ H Q) : PT X e t' := ⟨fun pins s σ H Q I q => h.run pins s σ H Q I (k _ _ _ q)⟩
theorem PA.weak {X : Cx} {e : List Expr} {t t' : TA} (h : PA X e t) (k : ∀ σ H Q, t' σ H Q → t σ H Q) : PA X e t' := ⟨fun pos pins s σ H Q I q => h.run pos pins s σ H Q I (k _ _ _ q)⟩
theorem PS.weak {X : Cx} {e : Stmt} {t t' : TS} (h : PS X e t) (k : ∀ D σ H, t' D σ H → t D σ H) : PS X e t' := ⟨fun pins s σ H D I q => h.run pins s σ H D I (k _ _ _ q)⟩
theorem PSs.weak {X : Cx} {e : List Stmt} {t t' : TS} (h : PSs X e t) (k : ∀ D σ H, t' D σ H → t D σ H) : PSs X e t' := ⟨fun pins s σ H D I q => h.run pins s σ H D I (k _ _ _ q)⟩
/-! ### a new list is locked, or stays a cell -/
def LK (Q : VK) : VK := fun x H' => Q x H' ∨ ∃ p xs, x = .ref p ∧ H' p = some (.lst xs) ∧ ∀ o, Q x (L2.upd H' p (.frz o (.lst xs)))
theorem EP.lk {X : Cx} {pins : List (Addr × Obj)} {σ : L2.St} {Q : VK} {u : Value} {s' : Shared} (h : EP X pins σ (LK Q) u s') : EP X pins σ Q u s' := by
  obtain ⟨v, H', I, r, q | ⟨p, xs, rfl, hp, q⟩⟩ := h
  · exact ⟨v, H', I, r, q⟩
  · obtain ⟨o, I2⟩ := I.lock hp trivial
    exact ⟨_, _, I2, r, q o⟩
theorem PE.lk {X : Cx} {e : Expr} {t : TE} (h : PE X e t) : PE X e (fun σ H Q => t σ H (LK Q)) :=
  ⟨fun pins s σ H Q I q => thn (h.run pins s σ H _ I q) fun _ _ hh => EP.lk hh⟩
section
variable {G : Glo} {H : Hp} {α : Al} {E : EW}
theorem Ext.lock {H : Hp} {p : Addr} {o : Obj} {xs : List V} (hp : H p = none) : Ext H (L2.upd (L2.upd H p (.lst xs)) p (.frz o (.lst xs))) := by
  rw [upd_upd]; exact Ext.new hp
/-- a list that stands at a place of its own -/
theorem LK.mk2 {mu : Bool} {l : List PV} {m : Mem} {Q : VK} {xs : List V} {p : Addr} (h : Post G (Rp G) (mkl mu l m) H α Q E) (hp : H p = some (.lst xs)) (hn : p ∉ α) (hb : ∃ H₀ α₀, H₀ p = none ∧ Stp H₀ α₀ H α ∧ Post G (Rp G) (mkl mu l m) H₀ α₀ Q E) (r : RpAll G H α xs l) (z : xs.length ≤ sizeLine) (me : MemR G H α m) : LK Q (.ref p) H := by
  obtain ⟨H₀, α₀, h0, st, h⟩ := hb
  cases mu with
  | true =>
    have h' : Post G (Rp G) (.ok (.cell m.length) (m ++ [l])) H₀ α₀ Q E := h
    refine .inl (h' (.ref p) _ (α ++ [p]) ⟨st.ext, st.le.trans Le.snoc, fun a ha => ?_, st.keep, st.there⟩ (.cell (by rw [← me.len]; simp)) ⟨by simp [me.len], ?_, fun k a l' e1 e2 => ?_⟩)
    · rcases List.mem_append.mp ha with ha | ha
      · exact st.new a ha
      · have e : a = p := by simpa using ha
        rw [e]; exact .inr h0
    · rw [List.nodup_append]
      refine ⟨me.nd, by simp, fun a ha b hb' => ?_⟩
      have e : b = p := by simpa using hb'
      subst e
      rintro rfl
      exact hn ha
    · by_cases hk : k < α.length
      · rw [List.getElem?_append_left hk] at e1
        rw [List.getElem?_append_left (by rw [← me.len]; exact hk)] at e2
        obtain ⟨ys, h1, h2, h3⟩ := me.at_ k a l' e1 e2
        exact ⟨ys, h1, h2.ext Ext.refl Le.snoc, h3⟩
      · have hk2 : k = α.length := by
          have := (List.getElem?_eq_some_iff.mp e1).1
          simp at this; omega
        subst hk2
        rw [List.getElem?_append_right (Nat.le_refl _)] at e1
        simp at e1
        subst e1
        rw [me.len, List.getElem?_append_right (Nat.le_refl _)] at e2
        simp at e2
        subst e2
        exact ⟨xs, hp, r.ext Ext.refl Le.snoc, z⟩
  | false =>
    unfold mkl at h
    rw [if_neg (by decide)] at h
    by_cases hd : l.all PV.isD = true
    · rw [if_pos hd] at h
      refine .inr ⟨p, xs, rfl, hp, fun o => ?_⟩
      have hE : Ext H (L2.upd H p (.frz o (.lst xs))) := Ext.set hp
      refine h (.ref p) _ α ⟨st.ext.trans hE, st.le, st.new, fun a u e ha => ?_, fun a ha => upd_there a (st.there a ha)⟩ (.d (.lst ⟨o, upd_same⟩ z ((r.fz hd).ext hE))) ⟨me.len, me.nd, fun k a l' e1 e2 => ?_⟩
      · rw [upd_ne (ne_of_none e h0)]; exact st.keep a u e ha
      · obtain ⟨ys, h1, h2, h3⟩ := me.at_ k a l' e1 e2
        exact ⟨ys, by rw [upd_ne (fun z => hn (by rw [← z]; exact List.mem_of_getElem? e1))]; exact h1, h2.ext hE Le.refl, h3⟩
    · rw [if_neg hd] at h
      exact h.elim
/-- a list made anew -/
theorem LK.mk {mu : Bool} {l : List PV} {m : Mem} {Q : VK} {xs : List V} {p : Addr} (h : Post G (Rp G) (mkl mu l m) H α Q E) (hp : H p = none) (r : RpAll G H α xs l) (z : xs.length ≤ sizeLine) (me : MemR G H α m) : LK Q (.ref p) (L2.upd H p (.lst xs)) := by
  cases mu with
  | true =>
    have h' : Post G (Rp G) (.ok (.cell m.length) (m ++ [l])) H α Q E := h
    exact .inl (h' (.ref p) _ (α ++ [p]) (Stp.snoc hp) (.cell (by rw [← me.len]; simp)) (me.snoc hp r z))
  | false =>
    unfold mkl at h
    rw [if_neg (by decide)] at h
    by_cases hd : l.all PV.isD = true
    · rw [if_pos hd] at h
      refine .inr ⟨p, xs, rfl, upd_same, fun o => ?_⟩
      have hE : Ext H (L2.upd H p (.frz o (.lst xs))) := Ext.new hp
      rw [upd_upd]
      exact h (.ref p) _ α (Stp.laid hp) (.d (.lst ⟨o, upd_same⟩ z ((r.fz hd).ext hE))) (me.upd hp)
    · rw [if_neg hd] at h
      exact h.elim
end
end Pv
namespace Pv
open PySem PySem.Spec PyProof.Rows L2
/-! ### values as they are viewed -/
inductive Dv (K : PySem.W.Frag) (H : Hp) : V → PV → Prop
  | non : Dv K H .non .non
  | bl (b : Bool) : Dv K H (.bl b) (.bl b)
  | int (i : Int) : Dv K H (.int i) (.int i)
  | str (s : List Nat) (ok : PyData.strOk ⟨s.toArray⟩ = true) (sz : s.length ≤ sizeLine) : Dv K H (.str ⟨s.toArray⟩) (.str s)
  | tup {a : Addr} {xs : List V} {l : List PV} : SqT K H a xs → xs.length ≤ sizeLine → FzAll K H xs l → Dv K H (.ref a) (.tup l)
  | lst {a : Addr} {xs : List V} {l : List PV} : Rd H a (.lst xs) → xs.length ≤ sizeLine → FzAll K H xs l → Dv K H (.ref a) (.lst l)
section
variable {G : Glo} {K : PySem.W.Frag} {H : Hp} {α : Al} {m : Mem} {E : EW} {X : Cx} {pins : List (Addr × Obj)} {σ : L2.St} {s : Shared}
theorem Fz.dv {x : V} {v : PV} (h : Fz K H x v) : Dv K H x v := by
  cases h with
  | non => exact .non
  | bl b => exact .bl b
  | int i => exact .int i
  | str s a b => exact .str s a b
  | tup a b c => exact .tup a b c
  | lst a b c => exact .lst (.inr a) b c
theorem vw_d {v : PV} (h : v.isD = true) : vw m v = v := by
  cases v <;> first | rfl | cases h
theorem vw_dv {x : V} {v : PV} (r : Rp G H α x v) (me : MemR G H α m) (d : (vw m v).isD = true) : Dv G.K H x (vw m v) := by
  cases r with
  | d h => rw [vw_d h.isD]; exact h.dv
  | @cell k a h =>
    unfold vw at d ⊢
    cases e : m[k]? with
    | none => simp only [e] at d; cases d
    | some l =>
      simp only [e] at d ⊢
      by_cases hd : l.all PV.isD = true
      · rw [if_pos hd]
        obtain ⟨xs, h1, h2, h3⟩ := me.at_ k a l h e
        exact .lst (.inl h1) h3 (h2.fz hd)
      · rw [if_neg hd] at d; cases d
  | fn h => cases d
theorem Dv.dp {x : V} {v : PV} (h : Dv K H x v) : Dp K H x v.dat := by
  cases h with
  | non => rw [PV.dat]; exact .non
  | bl b => rw [PV.dat]; exact .bl b
  | int i => rw [PV.dat]; exact .int i
  | str s a b => rw [PV.dat]; exact .str _
  | tup a b c => rw [PV.dat]; exact .tup a c.dp
  | lst a b c => rw [PV.dat]; exact .lst (.inl a) c.dp
theorem Dv.lay {x : V} {v : PV} (h : Dv K H x v) : v.dat.canLay0 = true := by
  cases h with
  | non => simp [PV.dat, PyData.canLay0]
  | bl b => simp [PV.dat, PyData.canLay0]
  | int i => simp [PV.dat, PyData.canLay0]
  | str s a b => simp only [PV.dat, PyData.canLay0]; exact a
  | tup a b c => simp only [PV.dat, PyData.canLay0]; exact c.lay
  | lst a b c => simp only [PV.dat, PyData.canLay0]; exact c.lay
theorem Dv.eqv {x y : V} {v w : PV} (h : Dv K H x v) (h' : Dv K H y w) : PyData.eqv v.dat w.dat = v.eqv w := by
  cases h with
  | non => cases h' <;> simp [PV.dat, PyData.eqv, PV.eqv]
  | bl b => cases h' <;> simp [PV.dat, PyData.eqv, PV.eqv, b2]
  | int i => cases h' <;> simp [PV.dat, PyData.eqv, PV.eqv, b2]
  | str s a b =>
    cases h' with
    | str t _ _ => simp only [PV.dat, PyData.eqv, PV.eqv, str_beq']
    | _ => simp [PV.dat, PyData.eqv, PV.eqv]
  | tup a b c =>
    cases h' with
    | tup _ _ d => simp only [PV.dat, PyData.eqv, PV.eqv]; exact eqv_datAll c d
    | _ => simp [PV.dat, PyData.eqv, PV.eqv]
  | lst a b c =>
    cases h' with
    | lst _ _ d => simp only [PV.dat, PyData.eqv, PV.eqv]; exact eqv_datAll c d
    | _ => simp [PV.dat, PyData.eqv, PV.eqv]
theorem Dv.fzeqv {x y : V} {v w : PV} (h : Fz K H x v) (h' : Dv K H y w) : PyData.eqv v.dat w.dat = v.eqv w := h.dv.eqv h'
theorem any_eqv {y : V} {w : PV} (h' : Dv K H y w) : ∀ {xs : List V} {l : List PV}, FzAll K H xs l → ((datAll l).any fun z => PyData.eqv z w.dat) = anyEq w l
  | _, _, .nil => by simp [datAll, anyEq]
  | _, _, .cons a b => by
    have ih := any_eqv h' b
    unfold anyEq at ih ⊢
    rw [datAll, List.any_cons, List.any_cons, ih, a.dv.eqv h']
/-- the truth of a value -/
theorem truth_ok {x : V} {v : PV} {b : Bool} (r : Rp G H α x v) (me : MemR G H α m) (e : truth m v = some b) : TruV G.K x H b := by
  cases r with
  | d h =>
    cases h with
    | non => cases e; rfl
    | bl c => cases e; rfl
    | int i => cases e; rfl
    | str s ok sz =>
      cases e
      refine ⟨by simpa [Str.length] using sz, ?_⟩
      cases s with
      | nil => rfl
      | cons c s =>
        have h : (⟨(c :: s).toArray⟩ : Str).length = s.length + 1 := by simp [Str.length]
        rw [h]
        have h2 : (((s.length + 1 : Nat) : Int) != 0) = true := by rw [bne_iff_ne]; omega
        rw [h2]; rfl
    | @tup a xs l h1 h2 h3 =>
      cases e
      exact .inr (.inl ⟨xs, h1, by cases h3 <;> rfl⟩)
    | @lst a xs l h1 h2 h3 =>
      cases e
      exact .inl ⟨xs, h1.sq, by cases h3 <;> rfl⟩
  | @cell k a h =>
    have e' : (m[k]?.map fun l => !l.isEmpty) = some b := e
    cases q : m[k]? with
    | none => rw [q] at e'; cases e'
    | some l =>
      rw [q] at e'
      cases e'
      obtain ⟨xs, h1, h2, h3⟩ := me.at_ k a l h q
      exact .inl ⟨xs, SqL.of h1, by cases h2 <;> rfl⟩
  | fn h => cases e
/-! ### helpers for what follows -/
theorem Post.lftb {o : Option Bool} {Q : VK} (h : Post G (Rp G) (lft (o.map .bl) m) H α Q E) (me : MemR G H α m) : ∃ b, o = some b ∧ Q (.bl b) H := by
  cases o with
  | none => exact h.elim
  | some b => exact ⟨b, rfl, Post.ok (v := PV.bl b) (x := V.bl b) h (Rp.d (Fz.bl b)) me⟩
theorem Post.lftv {o : Option PV} {Q : VK} (h : Post G (Rp G) (lft o m) H α Q E) : ∃ v, o = some v ∧ Post G (Rp G) (.ok v m) H α Q E := by
  cases o with
  | none => exact h.elim
  | some b => exact ⟨b, rfl, h⟩
end
/-! ### comparisons -/
def rCm (G : Glo) (E : L2.St → EW) (σ : L2.St) (c : Cm) : R2 := fun x y H Q => ∃ α v w m, Rp G H α x v ∧ Rp G H α y w ∧ MemR G H α m ∧ Post G (Rp G) (lft ((cmpop c m v w).map .bl) m) H α Q (E σ)
def cmOp : Cm → CmpOp
  | .eq => .Eq
  | .ne => .NotEq
  | .lt => .Lt
  | .le => .LtE
  | .gt => .Gt
  | .ge => .GtE
  | .is_ => .Is
  | .isnot => .IsNot
  | .in_ => .In
  | .notin => .NotIn
section
variable {G : Glo} {X : Cx} {E : EW} {n : Nat} {pins : List (Addr × Obj)} {σ : L2.St} {H : Hp} {s : Shared} {α : Al} {m : Mem}
theorem eqM_some {v w : PV} {b : Bool} (h : eqM m v w = some b) : (vw m v).isD = true ∧ (vw m w).isD = true ∧ min (vw m v).dep (vw m w).dep ≤ maxD ∧ b = (vw m v).eqv (vw m w) := by
  unfold eqM at h
  by_cases hc : ((vw m v).isD && (vw m w).isD && decide (min (vw m v).dep (vw m w).dep ≤ maxD)) = true
  · rw [if_pos hc] at h
    simp only [Bool.and_eq_true, decide_eq_true_eq] at hc
    exact ⟨hc.1.1, hc.1.2, hc.2, (Option.some.inj h).symm⟩
  · rw [if_neg hc] at h; cases h
theorem room_eq {A : Around} {d e : PyData} {a b : PV} (hr : Room (n + 5) A) (h1 : d.depth = a.dep) (h2 : e.depth = b.dep) (h : min a.dep b.dep ≤ maxD) : A.units + min d.depth e.depth < cLine := by
  have := hr.un
  rw [h1, h2]
  unfold maxD at h
  omega
theorem room_in {A : Around} {d : List PyData} {e : PyData} {a : List PV} {b : PV} (hr : Room (n + 5) A) (h1 : PyData.depthAll d = depAll a) (h2 : e.depth = b.dep) (h : min (depAll a) b.dep ≤ maxD) : A.units + 1 + min (PyData.depthAll d) e.depth < cLine := by
  have := hr.un
  rw [h1, h2]
  unfold maxD at h
  omega
/-- two values that are compared -/
abbrev Cmp (G : Glo) (X : Cx) (op : CmpOp) (f : Mem → PV → PV → Option Bool) : Prop :=
  ∀ (pins : List (Addr × Obj)) (s : Shared) (σ : L2.St) (H : Hp) (x y : V) (v u : Value) (α : Al) (a b : PV) (m : Mem) (c : Bool) (Q : VK), L2.Inv X pins σ H s → RelV x v → RelV y u → Rp G H α x a → Rp G H α y b → MemR G H α m → f m a b = some c → Q (.bl c) H →
    wpAny (model X.prog X.w) X.A (compareOp op v u) (EP X pins σ Q) X.xe s
theorem cmp_eq (hr : Room (n + 5) X.A) (hK : X.K = G.K) : Cmp G X .Eq eqM := by
  intro pins s σ H x y v u α a b m c Q I rx ry ra rb me e q
  obtain ⟨h1, h2, h3, rfl⟩ := eqM_some e
  have d1 := vw_dv ra me h1
  have d2 := vw_dv rb me h2
  rw [← hK] at d1 d2
  obtain ⟨as, r1⟩ := Dp.reads I _ x v d1.dp rx
  obtain ⟨bs, r2⟩ := Dp.reads I _ y u d2.dp ry
  exact SeqAt.compareEq_reads r1 r2 d1.lay d2.lay (room_eq hr (dat_dep _) (dat_dep _) h3) ⟨.bl _, H, I, rfl, by rw [d1.eqv d2]; exact q⟩
theorem cmp_ne (hr : Room (n + 5) X.A) (hK : X.K = G.K) : Cmp G X .NotEq (fun m x y => (eqM m x y).map (!·)) := by
  intro pins s σ H x y v u α a b m c Q I rx ry ra rb me e q
  obtain ⟨c', e1, e2⟩ := Option.map_eq_some_iff.mp e
  obtain ⟨h1, h2, h3, rfl⟩ := eqM_some e1
  subst e2
  have d1 := vw_dv ra me h1
  have d2 := vw_dv rb me h2
  rw [← hK] at d1 d2
  obtain ⟨as, r1⟩ := Dp.reads I _ x v d1.dp rx
  obtain ⟨bs, r2⟩ := Dp.reads I _ y u d2.dp ry
  exact SeqAt.compareNe_reads r1 r2 d1.lay d2.lay (room_eq hr (dat_dep _) (dat_dep _) h3) ⟨.bl _, H, I, rfl, by rw [d1.eqv d2]; exact q⟩
theorem isIn_some {v w : PV} {b : Bool} (h : isIn m v w = some b) : ∃ l, (vw m w = .tup l ∨ vw m w = .lst l) ∧ (vw m v).isD = true ∧ min (depAll l) (vw m v).dep ≤ maxD ∧ b = anyEq (vw m v) l := by
  unfold isIn at h
  split at h
  · rename_i l hl
    by_cases hc : ((vw m v).isD && decide (min (depAll l) (vw m v).dep ≤ maxD)) = true
    · rw [if_pos hc] at h
      simp only [Bool.and_eq_true, decide_eq_true_eq] at hc
      exact ⟨l, .inl hl, hc.1, hc.2, (Option.some.inj h).symm⟩
    · rw [if_neg hc] at h; cases h
  · rename_i l hl
    by_cases hc : ((vw m v).isD && decide (min (depAll l) (vw m v).dep ≤ maxD)) = true
    · rw [if_pos hc] at h
      simp only [Bool.and_eq_true, decide_eq_true_eq] at hc
      exact ⟨l, .inr hl, hc.1, hc.2, (Option.some.inj h).symm⟩
    · rw [if_neg hc] at h; cases h
  · cases h
theorem cmp_in (hr : Room (n + 5) X.A) (hK : X.K = G.K) : Cmp G X .In isIn := by
  intro pins s σ H x y v u α a b m c Q I rx ry ra rb me e q
  obtain ⟨l, hl, h1, h3, rfl⟩ := isIn_some e
  have d1 := vw_dv ra me h1
  rcases hl with hl | hl
  · have d2 := vw_dv rb me (by rw [hl]; rfl)
    rw [hl] at d2
    rw [← hK] at d1 d2
    obtain ⟨as, r1⟩ := Dp.reads I _ x v d1.dp rx
    obtain ⟨bs, r2⟩ := Dp.reads I _ y u d2.dp ry
    cases d2 with
    | tup z1 z2 z3 =>
      rw [PV.dat] at r2
      exact SeqAt.in_tuple_reads r2 r1 z3.lay d1.lay (room_in hr (dat_depAll _) (dat_dep _) h3) ⟨.bl _, H, I, rfl, by rw [any_eqv d1 z3]; exact q⟩
  · have d2 := vw_dv rb me (by rw [hl]; rfl)
    rw [hl] at d2
    rw [← hK] at d1 d2
    obtain ⟨as, r1⟩ := Dp.reads I _ x v d1.dp rx
    obtain ⟨bs, r2⟩ := Dp.reads I _ y u d2.dp ry
    cases d2 with
    | lst z1 z2 z3 =>
      rw [PV.dat] at r2
      exact SeqAt.in_list_reads r2 r1 z3.lay d1.lay (room_in hr (dat_depAll _) (dat_dep _) h3) ⟨.bl _, H, I, rfl, by rw [any_eqv d1 z3]; exact q⟩
theorem cmp_notin (hr : Room (n + 5) X.A) (hK : X.K = G.K) : Cmp G X .NotIn (fun m x y => (isIn m x y).map (!·)) := by
  intro pins s σ H x y v u α a b m c Q I rx ry ra rb me e q
  obtain ⟨c', e1, e2⟩ := Option.map_eq_some_iff.mp e
  obtain ⟨l, hl, h1, h3, rfl⟩ := isIn_some e1
  subst e2
  have d1 := vw_dv ra me h1
  rcases hl with hl | hl
  · have d2 := vw_dv rb me (by rw [hl]; rfl)
    rw [hl] at d2
    rw [← hK] at d1 d2
    obtain ⟨as, r1⟩ := Dp.reads I _ x v d1.dp rx
    obtain ⟨bs, r2⟩ := Dp.reads I _ y u d2.dp ry
    cases d2 with
    | tup z1 z2 z3 =>
      rw [PV.dat] at r2
      exact SeqAt.notIn_tuple_reads r2 r1 z3.lay d1.lay (room_in hr (dat_depAll _) (dat_dep _) h3) ⟨.bl _, H, I, rfl, by rw [any_eqv d1 z3]; exact q⟩
  · have d2 := vw_dv rb me (by rw [hl]; rfl)
    rw [hl] at d2
    rw [← hK] at d1 d2
    obtain ⟨as, r1⟩ := Dp.reads I _ x v d1.dp rx
    obtain ⟨bs, r2⟩ := Dp.reads I _ y u d2.dp ry
    cases d2 with
    | lst z1 z2 z3 =>
      rw [PV.dat] at r2
      exact SeqAt.notIn_list_reads r2 r1 z3.lay d1.lay (room_in hr (dat_depAll _) (dat_dep _) h3) ⟨.bl _, H, I, rfl, by rw [any_eqv d1 z3]; exact q⟩
theorem ints_fz {K : PySem.W.Frag} : ∀ {xs : List V} {l : List PV} {is : List Int}, FzAll K H xs l → intsOf l = some is → xs = is.map V.int
  | _, _, _, .nil, e => by cases e; rfl
  | _, _, _, .cons a b, e => by
    cases a with
    | int i =>
      simp only [intsOf] at e
      obtain ⟨is, e1, e2⟩ := Option.map_eq_some_iff.mp e
      subst e2
      rw [ints_fz b e1]; rfl
    | _ => simp [intsOf] at e
theorem lexI_eq : ∀ (a b : List Int), lexI a b = HT.lexLt a b
  | [], [] => rfl
  | [], _ :: _ => rfl
  | _ :: _, [] => rfl
  | x :: a, y :: b => by unfold lexI HT.lexLt; rw [lexI_eq a b]
theorem cmp_lt (hr : Room (n + 5) X.A) (hK : X.K = G.K) : Cmp G X .Lt (fun m x y => (vw m x).lt (vw m y)) := by
  intro pins s σ H x y v u α a b m c Q I rx ry ra rb me e q
  have e : (vw m a).lt (vw m b) = some c := e
  have hd : (vw m a).isD = true ∧ (vw m b).isD = true := by
    unfold PV.lt at e
    split at e
    · rename_i h1 h2; rw [h1, h2]; exact ⟨rfl, rfl⟩
    · rename_i h1 h2; rw [h1, h2]; exact ⟨rfl, rfl⟩
    · cases e
  have d1 := vw_dv ra me hd.1
  have d2 := vw_dv rb me hd.2
  revert d1 d2 e
  generalize vw m a = a'
  generalize vw m b = b'
  intro e d1 d2
  unfold PV.lt at e
  split at e
  · cases d1; cases d2
    cases e
    exact op_lt pins s σ H _ _ v u Q I rx ry ⟨_, _, rfl, rfl, q⟩
  · rename_i la lb
    cases ea : intsOf la with
    | none => simp only [ea] at e; cases e
    | some ia =>
      cases eb : intsOf lb with
      | none => simp only [ea, eb] at e; cases e
      | some ib =>
        simp only [ea, eb] at e
        cases e
        cases d1 with
        | tup z1 z2 z3 =>
          cases d2 with
          | tup y1 y2 y3 =>
            rw [← hK] at z1 y1
            have h1 := ints_fz z3 ea
            have h2 := ints_fz y3 eb
            subst h1 h2
            refine op_ltT (by have := hr.un; omega) pins s σ H _ _ v u Q I rx ry ⟨_, _, _, _, rfl, rfl, z1, y1, ?_⟩
            rw [← lexI_eq]; exact q
  · cases e
theorem fz_int {x : V} {i : Int} (h : Rp G H α x (.int i)) : x = .int i := by
  cases h with
  | d h => cases h; rfl
theorem fz_bl {x : V} {i : Bool} (h : Rp G H α x (.bl i)) : x = .bl i := by
  cases h with
  | d h => cases h; rfl
theorem fz_non {x : V} (h : Rp G H α x .non) : x = .non := by
  cases h with
  | d h => cases h; rfl
theorem cmp_gt : Cmp G X .Gt (fun m x y => cmpop .gt m x y) := by
  intro pins s σ H x y v u α a b m c Q I rx ry ra rb me e q
  unfold cmpop at e
  dsimp only at e
  split at e
  · have h1 := fz_int ra
    have h2 := fz_int rb
    subst h1 h2
    cases e
    exact op_gt pins s σ H _ _ v u Q I rx ry ⟨_, _, rfl, rfl, q⟩
  · cases e
theorem cmp_le : Cmp G X .LtE (fun m x y => cmpop .le m x y) := by
  intro pins s σ H x y v u α a b m c Q I rx ry ra rb me e q
  unfold cmpop at e
  dsimp only at e
  split at e
  · have h1 := fz_int ra
    have h2 := fz_int rb
    subst h1 h2
    cases e
    exact op_le pins s σ H _ _ v u Q I rx ry ⟨_, _, rfl, rfl, q⟩
  · cases e
theorem cmp_ge : Cmp G X .GtE (fun m x y => cmpop .ge m x y) := by
  intro pins s σ H x y v u α a b m c Q I rx ry ra rb me e q
  unfold cmpop at e
  dsimp only at e
  split at e
  · have h1 := fz_int ra
    have h2 := fz_int rb
    subst h1 h2
    cases e
    exact op_ge pins s σ H _ _ v u Q I rx ry ⟨_, _, rfl, rfl, q⟩
  · cases e
theorem Rp.nonOr {x : V} {v : PV} (h : Rp G H α x v) (hv : v ≠ .non) : x ≠ .non := by
  intro z
  subst z
  cases h with
  | d h => cases h; exact hv rfl
theorem cmp_is : Cmp G X .Is (fun _ x y => isSame x y) := by
  intro pins s σ H x y v u α a b m c Q I rx ry ra rb me e q
  replace e : isSame a b = some c := e
  unfold isSame at e
  split at e
  · have h1 := fz_bl ra
    have h2 := fz_bl rb
    subst h1 h2
    cases e
    refine op_is_bl pins s σ H _ _ v u Q I rx ry ⟨_, _, rfl, rfl, ?_⟩
    rw [← Bool.beq_eq_decide_eq]; exact q
  · have h1 := fz_non ra
    have h2 := fz_non rb
    subst h1 h2
    cases e
    exact op_isN pins s σ H _ _ v u Q I rx ry ⟨rfl, q⟩
  · rename_i hne
    have h2 := fz_non rb
    subst h2
    cases e
    refine op_isN pins s σ H _ _ v u Q I rx ry ⟨rfl, ?_⟩
    rw [decide_eq_false (ra.nonOr hne)]; exact q
  · cases e
theorem cmp_isnot : Cmp G X .IsNot (fun _ x y => (isSame x y).map (!·)) := by
  intro pins s σ H x y v u α a b m c Q I rx ry ra rb me e q
  obtain ⟨c', e1, e2⟩ := Option.map_eq_some_iff.mp e
  subst e2
  unfold isSame at e1
  split at e1
  · have h1 := fz_bl ra
    have h2 := fz_bl rb
    subst h1 h2
    cases e1
    refine op_isnot_bl pins s σ H _ _ v u Q I rx ry ⟨_, _, rfl, rfl, ?_⟩
    rw [← Bool.beq_eq_decide_eq]; exact q
  · have h1 := fz_non ra
    have h2 := fz_non rb
    subst h1 h2
    cases e1
    exact op_notN pins s σ H _ _ v u Q I rx ry ⟨rfl, q⟩
  · rename_i hne
    have h2 := fz_non rb
    subst h2
    cases e1
    refine op_notN pins s σ H _ _ v u Q I rx ry ⟨rfl, ?_⟩
    rw [decide_eq_false (ra.nonOr hne)]; exact q
  · cases e1
theorem cmp_all (hr : Room (n + 5) X.A) (hK : X.K = G.K) : ∀ c : Cm, Cmp G X (cmOp c) (cmpop c)
  | .eq => cmp_eq hr hK
  | .ne => cmp_ne hr hK
  | .lt => cmp_lt hr hK
  | .le => cmp_le
  | .gt => cmp_gt
  | .ge => cmp_ge
  | .is_ => cmp_is
  | .isnot => cmp_isnot
  | .in_ => cmp_in hr hK
  | .notin => cmp_notin hr hK
end
end Pv
namespace Pv
open PySem PySem.Spec PyProof.Rows L2
/-! ### operators -/
def opOp : Op → Operator
  | .add => .Add
  | .sub => .Sub
  | .mul => .Mult
  | .fdiv => .FloorDiv
  | .mod => .Mod
  | .pow => .Pow
  | .band => .BitAnd
  | .bor => .BitOr
  | .bxor => .BitXor
  | .shr => .RShift
theorem bitAnd_eq {i j k : Int} (h : bitAnd i j = some k) : Builtin.bitAnd i j = k := by
  unfold bitAnd at h
  split at h
  · cases h
    unfold Builtin.bitAnd
    rw [show decide (0 ≤ Int.ofNat _) = true from decide_eq_true (Int.natCast_nonneg _), show decide (0 ≤ Int.ofNat _) = true from decide_eq_true (Int.natCast_nonneg _)]
    rfl
  · cases h
theorem bitNot_neg (x : Nat) : decide (0 ≤ Builtin.bitNot (Int.ofNat x)) = false := by
  apply decide_eq_false
  simp only [Builtin.bitNot, Int.ofNat_eq_natCast]
  omega
theorem bitNot_not (x : Int) : Builtin.bitNot (Builtin.bitNot x) = x := by
  simp only [Builtin.bitNot]
  omega
theorem bitOr_eq {i j k : Int} (h : bitOr i j = some k) : Builtin.bitOr i j = k := by
  unfold bitOr at h
  split at h
  · rename_i x y
    cases h
    unfold Builtin.bitOr
    have e : Builtin.bitAnd (Builtin.bitNot (Int.ofNat x)) (Builtin.bitNot (Int.ofNat y)) = Builtin.bitNot (((Int.ofNat x).toNat ||| (Int.ofNat y).toNat : Nat) : Int) := by
      unfold Builtin.bitAnd
      rw [bitNot_neg, bitNot_neg, bitNot_not, bitNot_not]
    rw [e, bitNot_not]
    rfl
  · cases h
theorem bitXor_eq {i j k : Int} (h : bitXor i j = some k) : Builtin.bitXor i j = k := by
  unfold bitXor at h
  split at h
  · rename_i x y
    cases h
    unfold Builtin.bitXor
    rw [bitOr_eq (i := .ofNat x) (j := .ofNat y) rfl, bitAnd_eq (i := .ofNat x) (j := .ofNat y) rfl]
  · cases h
theorem rep_length {α : Type} (l : List α) : ∀ n : Nat, (rep l n).length = l.length * n
  | 0 => by simp [rep]
  | n + 1 => by rw [rep, List.length_append, rep_length l n, Nat.mul_succ, Nat.add_comm]
theorem strOk_app {a b : List Nat} (h1 : PyData.strOk ⟨a.toArray⟩ = true) (h2 : PyData.strOk ⟨b.toArray⟩ = true) : PyData.strOk ⟨(a ++ b).toArray⟩ = true := by
  simp only [PyData.strOk, List.size_toArray, List.all_toArray', List.all_append, Bool.and_eq_true] at *
  exact ⟨h1, h2⟩
theorem strOk_sub {a b : List Nat} (h1 : PyData.strOk ⟨a.toArray⟩ = true) (h : ∀ x ∈ b, x ∈ a) : PyData.strOk ⟨b.toArray⟩ = true := by
  simp only [PyData.strOk, List.size_toArray, List.all_toArray', List.all_eq_true] at *
  exact fun x hx => h1 x (h x hx)
section
variable {G : Glo} {X : Cx} {n : Nat} {pins : List (Addr × Obj)} {σ : L2.St} {H : Hp} {s : Shared} {α : Al} {m : Mem}
/-- what a list that is read looks like -/
theorem Inv.rdL {l : Addr} {xs : List V} (I : L2.Inv X pins σ H s) (h : Rd H l (.lst xs)) : xs.length ≤ sizeLine ∧ ∃ (its : List Value) (n : Nat), Vals xs its ∧ xs.length = its.length ∧ s.heap.get? l = some { cls := .type "list", data := .seq its.toArray n } := by
  rcases h with h | ⟨o, h⟩
  · exact I.lstM h
  · obtain ⟨e, z, its, k, r, e2⟩ := (show ObjOk X.prog X.w H s.heap l (.frz o (.lst xs)) from I.hok l _ h)
    exact ⟨z, its, k, r, r.length, e2⟩
def rCatF : R2 := fun x y H Q => ∃ l b xs zs, x = .ref l ∧ y = .ref b ∧ Rd H l (.lst xs) ∧ Rd H b (.lst zs) ∧ xs.length + zs.length ≤ sizeLine ∧ ∀ p, H p = none → Q (.ref p) (L2.upd H p (.lst (xs ++ zs)))
theorem op_catF : OpR X (binaryOp .Add) rCatF := by
  rintro pins s0 σ Ho xv yv uv wv Q Io rx ry ⟨pa, pb, xa, xb, rfl, rfl, hA, hB, hsz, hQ⟩
  cases rx; cases ry
  obtain ⟨za, ia, na, ra, la, ea⟩ := Inv.rdL Io hA
  obtain ⟨zb, ib, nb, rb, lb, eb⟩ := Inv.rdL Io hB
  have hcap : ia.toArray.size + ib.toArray.size ≤ sizeLine := by simp only [List.size_toArray]; omega
  refine PySem.P.add_list ea eb ?_ hcap
  rw [show ia.toArray ++ ib.toArray = (ia ++ ib).toArray from by simp]
  have hnl : (xa ++ xb).length ≤ sizeLine := by rw [List.length_append]; exact hsz
  exact ⟨.ref _, _, Io.lnew (t' := s0.toks) (ra.append rb) hnl, rfl, hQ _ Io.fresh⟩
def rRepF : R2 := fun x y H Q => ∃ l k xs, x = .ref l ∧ y = .int k ∧ Rd H l (.lst xs) ∧ -(2 ^ 63) ≤ k ∧ k < 2 ^ 63 ∧ xs.length * k.toNat ≤ sizeLine ∧
  ∀ p, H p = none → Q (.ref p) (L2.upd H p (.lst (List.replicate k.toNat xs).flatten))
theorem rep_arrays (ia : List Value) (c : Nat) : List.foldl (fun p q => p ++ q) #[] (List.replicate (if ia.toArray.isEmpty = true then 0 else c) ia.toArray) = (List.replicate c ia).flatten.toArray := by
  have step : ∀ j : Nat, List.foldl (fun p q => p ++ q) #[] (List.replicate j ia.toArray) = (List.replicate j ia).flatten.toArray := fun j => by
    simpa using foldl_rep ia j []
  rw [step]
  cases ia with
  | nil => simp
  | cons hd tl => simp
theorem op_repF : OpR X (binaryOp .Mult) rRepF := by
  rintro pins s0 σ Ho xv yv uv wv Q Io rx ry ⟨pa, c, xa, rfl, rfl, hA, c1, c2, hsz, hQ⟩
  cases rx
  obtain ⟨tk, rfl⟩ := ry
  obtain ⟨za, ia, na, ra, la, ea⟩ := Inv.rdL Io hA
  have szA : ia.toArray.size * c.toNat ≤ sizeLine := by simpa [← la] using hsz
  have lineN : (sizeLine : Nat) ≤ (2 ^ 63 - 1) / 8 := by decide
  have notOver : ¬ ia.toArray.size * c.toNat > (2 ^ 63 - 1) / 8 := fun z => absurd (Nat.le_trans szA lineN) (Nat.not_le_of_gt z)
  have fitsIx : ¬ (!Builtin.List.listFitsIndex c) = true := by simp [fitsIndex_both c1 c2]
  have notTooLong : ¬ Builtin.List.listTooLong (ia.toArray.size * c.toNat) = true := fun z => by rw [notLongL szA] at z; cases z
  have tyL : s0.TypeIs (.ref pa) "list" := ⟨_, ea, rfl⟩
  have inner := AutoListH.list___mul___list_int_3 pa ia.toArray na c tk fitsIx notOver notTooLong
  have outer := int___rmul___int_list c tk pa ia.toArray na
  refine wpAny_binaryOp_repeat_ref (T := "list") (U := "int") (by decide) tyL (fun sx => typeIs_int sx c tk)
    noFill_list_mul F.fills_int_mul F.slot_int_rmul repeat_list F.slot_int_index.lookup ?_
  refine call_meets F.slot_int_rmul (typeIs_int s0 c tk) F.entry_int_rmul (F.args_int_rmul_2 _ _) outer ?_
  refine ⟨ea, rfl, tyL, call_meets F.slot_list_mul tyL F.entry_list_mul (F.args_list_mul_2 _ _) inner ⟨ea, ?_⟩⟩
  rw [rep_arrays]
  have hnl : (List.replicate c.toNat xa).flatten.length ≤ sizeLine := by
    rw [PyProof.Rows.lm_len_rep_flat, Nat.mul_comm]
    exact hsz
  exact ⟨.ref _, _, Io.lnew (t' := s0.toks) (ra.rep c.toNat) hnl, rfl, hQ _ Io.fresh⟩
theorem thnLK {u : Sem Value} {Q : VK} (h : wpAny (model X.prog X.w) X.A u (EP X pins σ (LK Q)) X.xe s) : wpAny (model X.prog X.w) X.A u (EP X pins σ Q) X.xe s := thn h fun _ _ hh => EP.lk hh
theorem inL_ok {i : Int} (h : inL i = true) : -(2 ^ 64) < i ∧ i < 2 ^ 64 := by
  simpa [inL] using h
theorem big_eq : big = sizeLine := by rw [sizeLine_eq]; rfl
theorem bin_all (hK : X.K = G.K) (o : Op) {mu : Bool} {x y : V} {v u : Value} {a b : PV} {Q : VK} {E : EW} (I : L2.Inv X pins σ H s) (rx : L2.RelV x v) (ry : L2.RelV y u) (ra : Rp G H α x a) (rb : Rp G H α y b) (me : MemR G H α m)
    (q : Post G (Rp G) (binop mu o a b m) H α Q E) : wpAny (model X.prog X.w) X.A (binaryOp (opOp o) v u) (EP X pins σ Q) X.xe s := by
  unfold binop at q
  split at q
  · -- ints
    rename_i i j h1 h2
    have d1 := vw_dv ra me (by rw [h1]; rfl)
    have d2 := vw_dv rb me (by rw [h2]; rfl)
    rw [h1] at d1
    rw [h2] at d2
    cases d1
    cases d2
    obtain ⟨w, e, q⟩ := Post.lftv q
    obtain ⟨k, e1, rfl⟩ := Option.map_eq_some_iff.mp e
    have qq : Q (.int k) H := Post.ok (x := V.int k) q (Rp.d (Fz.int k)) me
    cases o with
    | add => cases e1; exact op_add pins s σ H _ _ v u Q I rx ry ⟨_, _, rfl, rfl, qq⟩
    | sub => cases e1; exact op_sub pins s σ H _ _ v u Q I rx ry ⟨_, _, rfl, rfl, qq⟩
    | mul =>
      unfold arith at e1
      dsimp only at e1
      by_cases hc : (inL i || inL j) = true
      · rw [if_pos hc] at e1
        cases e1
        refine op_mul pins s σ H _ _ v u Q I rx ry ⟨_, _, rfl, rfl, ?_, qq⟩
        rw [Bool.or_eq_true] at hc
        exact hc.imp inL_ok inL_ok
      · rw [if_neg hc] at e1; cases e1
    | fdiv =>
      unfold arith at e1
      dsimp only at e1
      by_cases hc : 0 < j ∧ j < 1073741824
      · rw [if_pos hc] at e1
        cases e1
        exact op_fdiv pins s σ H _ _ v u Q I rx ry ⟨_, _, rfl, rfl, hc, qq⟩
      · rw [if_neg hc] at e1; cases e1
    | mod =>
      unfold arith at e1
      dsimp only at e1
      by_cases hc : 0 < j
      · rw [if_pos hc] at e1
        cases e1
        exact op_mod pins s σ H _ _ v u Q I rx ry ⟨_, _, rfl, rfl, hc, qq⟩
      · rw [if_neg hc] at e1; cases e1
    | pow =>
      unfold arith at e1
      dsimp only at e1
      by_cases hc : 0 ≤ j ∧ j ≤ 1000 ∧ i.natAbs < 2 ^ 64
      · rw [if_pos hc] at e1
        cases e1
        exact op_pow pins s σ H _ _ v u Q I rx ry ⟨_, _, rfl, rfl, ⟨hc.1, by omega, hc.2.2⟩, qq⟩
      · rw [if_neg hc] at e1; cases e1
    | band => exact op_and pins s σ H _ _ v u Q I rx ry ⟨_, _, rfl, rfl, by show Q (.int (Builtin.bitAnd i j)) H; rw [bitAnd_eq e1]; exact qq⟩
    | bor => exact op_or pins s σ H _ _ v u Q I rx ry ⟨_, _, rfl, rfl, by show Q (.int (Builtin.bitOr i j)) H; rw [bitOr_eq e1]; exact qq⟩
    | bxor => exact op_xor pins s σ H _ _ v u Q I rx ry ⟨_, _, rfl, rfl, by show Q (.int (Builtin.bitXor i j)) H; rw [bitXor_eq e1]; exact qq⟩
    | shr =>
      unfold arith at e1
      dsimp only at e1
      by_cases hc : 0 ≤ j
      · rw [if_pos hc] at e1
        cases e1
        exact op_shr pins s σ H _ _ v u Q I rx ry ⟨_, _, rfl, rfl, hc, qq⟩
      · rw [if_neg hc] at e1; cases e1
  · -- tuples
    rename_i la lb h1 h2
    have d1 := vw_dv ra me (by rw [h1]; rfl)
    have d2 := vw_dv rb me (by rw [h2]; rfl)
    rw [h1] at d1
    rw [h2] at d2
    cases o <;> first | exact q.elim | skip
    dsimp only at q
    by_cases hz : la.length + lb.length ≤ big
    · rw [if_pos hz] at q
      cases d1 with
      | @tup pa xs _ z1 z2 z3 =>
        cases d2 with
        | @tup pb ys _ y1 y2 y3 =>
          have l1 := z3.length
          have l2 := y3.length
          rw [← hK] at z1 y1
          rw [big_eq] at hz
          refine op_catA pins s σ H _ _ v u Q I rx ry ⟨pa, pb, xs, ys, rfl, rfl, z1, y1, by omega, fun hx => ?_, fun _ hy => ?_, fun _ _ p hp => ?_⟩
          · subst hx
            cases z3
            rw [hK] at y1
            exact Post.ok (v := PV.tup _) q (Rp.d (Fz.tup y1 y2 y3)) me
          · subst hy
            cases y3
            rw [hK] at z1
            rw [List.append_nil] at q
            exact Post.ok (v := PV.tup _) q (Rp.d (Fz.tup z1 z2 z3)) me
          · exact q (.ref p) _ α (Stp.laid hp) (.d (.tup (SqT.of upd_same) (by rw [List.length_append]; omega) ((FzAll.append z3 y3).ext (Ext.new hp)))) (me.upd hp)
    · rw [if_neg hz] at q; exact q.elim
  · -- lists
    rename_i la lb h1 h2
    have d1 := vw_dv ra me (by rw [h1]; rfl)
    have d2 := vw_dv rb me (by rw [h2]; rfl)
    rw [h1] at d1
    rw [h2] at d2
    cases o <;> first | exact q.elim | skip
    dsimp only at q
    by_cases hz : la.length + lb.length ≤ big
    · rw [if_pos hz] at q
      cases d1 with
      | @lst pa xs _ z1 z2 z3 =>
        cases d2 with
        | @lst pb ys _ y1 y2 y3 =>
          have l1 := z3.length
          have l2 := y3.length
          rw [big_eq] at hz
          exact thnLK (op_catF pins s σ H _ _ v u _ I rx ry ⟨pa, pb, xs, ys, rfl, rfl, z1, y1, by omega, fun p hp => LK.mk q hp (FzAll.append z3 y3).rp (by rw [List.length_append]; omega) me⟩)
    · rw [if_neg hz] at q; exact q.elim
  · -- texts
    rename_i la lb h1 h2
    have d1 := vw_dv ra me (by rw [h1]; rfl)
    have d2 := vw_dv rb me (by rw [h2]; rfl)
    rw [h1] at d1
    rw [h2] at d2
    cases o <;> first | exact q.elim | skip
    dsimp only at q
    by_cases hz : la.length + lb.length ≤ big
    · rw [if_pos hz] at q
      rw [big_eq] at hz
      cases d1 with
      | str _ o1 z1 =>
        cases d2 with
        | str _ o2 z2 =>
          have e : (⟨la.toArray⟩ : Str) ++ (⟨lb.toArray⟩ : Str) = ⟨(la ++ lb).toArray⟩ := by
            show (⟨la.toArray ++ lb.toArray⟩ : Str) = _
            rw [List.append_toArray]
          refine op_add_str pins s σ H _ _ v u Q I rx ry ⟨_, _, rfl, rfl, by simpa [Str.length] using hz, ?_⟩
          rw [e]
          exact Post.ok (v := PV.str _) q (Rp.d (Fz.str _ (strOk_app o1 o2) (by rw [List.length_append]; exact hz))) me
    · rw [if_neg hz] at q; exact q.elim
  · -- a list some times
    rename_i la j h1 h2
    have d1 := vw_dv ra me (by rw [h1]; rfl)
    have d2 := vw_dv rb me (by rw [h2]; rfl)
    rw [h1] at d1
    rw [h2] at d2
    cases o <;> first | exact q.elim | skip
    dsimp only at q
    by_cases hz : la.length * j.toNat ≤ big ∧ j ≤ 1000000 ∧ -1000000 ≤ j
    · rw [if_pos hz] at q
      obtain ⟨hz, hj, hj2⟩ := hz
      rw [big_eq] at hz
      cases d1 with
      | @lst pa xs _ z1 z2 z3 =>
        cases d2
        have l1 := z3.length
        exact thnLK (op_repF pins s σ H _ _ v u _ I rx ry ⟨pa, j, xs, rfl, rfl, z1, by omega, by omega, by rw [l1]; exact hz, fun p hp => LK.mk q hp (FzAll.rep z3 _).rp (by
          rw [(FzAll.rep z3 j.toNat).length, rep_length]; exact hz) me⟩)
    · rw [if_neg hz] at q; exact q.elim
  · -- a tuple some times
    rename_i la j h1 h2
    have d1 := vw_dv ra me (by rw [h1]; rfl)
    have d2 := vw_dv rb me (by rw [h2]; rfl)
    rw [h1] at d1
    rw [h2] at d2
    cases o <;> first | exact q.elim | skip
    dsimp only at q
    by_cases hz : la.length ≤ 1000 ∧ la ≠ [] ∧ 2 ≤ j ∧ j ≤ 1000
    · rw [if_pos hz] at q
      obtain ⟨hz, hn, hj, hj2⟩ := hz
      cases d1 with
      | @tup pa xs _ z1 z2 z3 =>
        cases d2
        have l1 := z3.length
        rw [← hK] at z1
        refine op_repT pins s σ H _ _ v u _ I rx ry ⟨pa, j, xs, rfl, rfl, z1, fun e => ?_, hj, hj2, by omega, fun p hp => ?_⟩
        · subst e; cases z3; exact hn rfl
        · exact q (.ref p) _ α (Stp.laid hp) (.d (.tup (SqT.of upd_same) (by
            rw [(FzAll.rep z3 j.toNat).length, rep_length, sizeLine_eq]
            have : la.length * j.toNat ≤ 1000 * 1000 := Nat.mul_le_mul hz (by omega)
            omega) ((FzAll.rep z3 _).ext (Ext.new hp)))) (me.upd hp)
    · rw [if_neg hz] at q; exact q.elim
  · exact q.elim
end
end Pv
namespace Pv
open PySem PySem.Spec PyProof.Rows L2
section
variable {G : Glo} {X : Cx} {n : Nat} {pins : List (Addr × Obj)} {σ : L2.St} {H : Hp} {s : Shared} {α : Al} {m : Mem} {E : EW}
/-! ### items and slices -/
theorem atI_all {K : PySem.W.Frag} {xs : List V} {l : List PV} {i : Int} {r : PV} (h : FzAll K H xs l) (e : ((atI l.length i).bind fun k => l[k]?) = some r) : ∃ y, L2.atI xs i = some y ∧ Fz K H y r := by
  obtain ⟨k, e1, e2⟩ := Option.bind_eq_some_iff.mp e
  obtain ⟨y, h1, h2⟩ := h.get e2
  refine ⟨y, ?_, h2⟩
  unfold L2.atI
  have : L2.ixN xs.length i = some k := by rw [h.length]; exact e1
  rw [this]; exact h1
theorem atI_rp {xs : List V} {l : List PV} {i : Int} {r : PV} (h : RpAll G H α xs l) (e : ((atI l.length i).bind fun k => l[k]?) = some r) : ∃ y, L2.atI xs i = some y ∧ Rp G H α y r := by
  obtain ⟨k, e1, e2⟩ := Option.bind_eq_some_iff.mp e
  obtain ⟨y, h1, h2⟩ := Paired.get' h e2
  refine ⟨y, ?_, h2⟩
  unfold L2.atI
  have : L2.ixN xs.length i = some k := by rw [Paired.length h]; exact e1
  rw [this]; exact h1
theorem item_ok (hK : X.K = G.K) {x y : V} {a b : PV} {Q : VK} (ra : Rp G H α x a) (rb : Rp G H α y b) (me : MemR G H α m) (q : Post G (Rp G) (lft (item m a b) m) H α Q E) : rIx X.K x y H Q := by
  obtain ⟨r, e, q'⟩ := Post.lftv q
  clear q
  unfold item at e
  split at e
  · rename_i l i h1
    have d1 := vw_dv ra me (by rw [h1]; rfl)
    rw [h1] at d1
    have e2 := fz_int rb
    subst e2
    cases d1 with
    | tup z1 z2 z3 =>
      obtain ⟨w, e3, f⟩ := atI_all z3 e
      rw [hK]
      exact .inr (.inl ⟨_, _, _, w, rfl, rfl, z1, e3, Post.ok q' (Rp.d f) me⟩)
  · rename_i l i h1
    have d1 := vw_dv ra me (by rw [h1]; rfl)
    rw [h1] at d1
    have e2 := fz_int rb
    subst e2
    cases d1 with
    | lst z1 z2 z3 =>
      obtain ⟨w, e3, f⟩ := atI_all z3 e
      exact .inl ⟨_, _, _, w, rfl, rfl, .inl z1, e3, Post.ok q' (Rp.d f) me⟩
  · rename_i l i h1
    have d1 := vw_dv ra me (by rw [h1]; rfl)
    rw [h1] at d1
    have e2 := fz_int rb
    subst e2
    obtain ⟨k, e3, e4⟩ := Option.bind_eq_some_iff.mp e
    obtain ⟨c, e5, rfl⟩ := Option.map_eq_some_iff.mp e4
    cases d1 with
    | str _ ok sz =>
      refine .inr (.inr ⟨_, _, c, rfl, rfl, by simpa [Str.length] using sz, ?_, ?_⟩)
      · unfold L2.atI
        have : L2.ixN (⟨l.toArray⟩ : Str).cps.toList.length i = some k := by
          show L2.ixN l.toArray.toList.length i = some k
          rw [List.toList_toArray]; exact e3
        rw [this]
        simpa using e5
      · refine Post.ok (v := PV.str [c]) q' (Rp.d (Fz.str [c] (strOk_sub ok ?_) (by rw [sizeLine_eq]; simp))) me
        intro z hz
        have : z = c := by simpa using hz
        subst this
        exact List.mem_of_getElem? e5
  · rename_i k i h1
    have e2 := fz_int rb
    subst e2
    obtain ⟨l, e3, e4⟩ := Option.bind_eq_some_iff.mp e
    have ha : a = .cell k := by
      cases a with
      | cell j =>
        unfold vw at h1
        cases q2 : m[j]? with
        | none => simp only [q2] at h1; exact h1
        | some l' =>
          simp only [q2] at h1
          split at h1
          · cases h1
          · exact h1
      | _ => cases h1
    subst ha
    cases ra with
    | d h => cases h
    | cell h =>
      obtain ⟨xs, h2, h3, h4⟩ := me.at_ k _ l h e3
      obtain ⟨w, e5, f⟩ := atI_rp h3 e4
      exact .inl ⟨_, _, _, w, rfl, rfl, SqL.of h2, e5, Post.ok q' f me⟩
  · cases e
theorem bound_eq (k d : Nat) (o : Option Int) : bound k d o = HT.sIx k d o := by
  cases o with
  | none => rfl
  | some i => rfl
theorem FzAll.cut {K : PySem.W.Frag} {xs : List V} {l : List PV} (h : FzAll K H xs l) (lo hi : Option Int) : FzAll K H (cutV xs lo hi) (cut l lo hi) := by
  unfold cutV Pv.cut
  rw [bound_eq, bound_eq, ← h.length]
  exact FzAll.take _ (FzAll.drop _ h)
def rSlA3 (K : PySem.W.Frag) : V → Option Int → Option Int → Hp → VK → Prop := fun x lo hi H Q => (rSlA K x lo hi H Q ∨ rSlL K x lo hi H Q) ∨ rSlS x lo hi H Q
theorem sl_any : SlR X (rSlA3 X.K) := (sl_tupA.or sl_list).or sl_str
theorem slice_ok (hK : X.K = G.K) {x : V} {a : PV} {lo hi : Option Int} {pl ph : PV} {Q : VK} (ra : Rp G H α x a) (me : MemR G H α m) (hl : optI pl = some lo) (hh : optI ph = some hi) (q : Post G (Rp G) (lft (slice m a pl ph) m) H α Q E) : rSlA3 X.K x lo hi H (LK Q) := by
  obtain ⟨r, e, q⟩ := Post.lftv q
  unfold slice at e
  rw [hl, hh] at e
  have e : (match vw m a with
    | .tup l => some (PV.tup (cut l lo hi))
    | .lst l => some (PV.lst (cut l lo hi))
    | .str l => some (PV.str (cut l lo hi))
    | _ => none) = some r := e
  split at e
  · rename_i l h1
    have d1 := vw_dv ra me (by rw [h1]; rfl)
    rw [h1] at d1
    cases e
    cases d1 with
    | @tup p xs _ z1 z2 z3 =>
      rw [hK]
      have hc := z3.cut lo hi
      refine .inl (.inl ⟨p, xs, rfl, z1, fun hw => .inl ?_, fun _ p' hp => .inl ?_⟩)
      · have e2 : cutV xs lo hi = xs := by
          unfold cutV
          rw [hw.1, hw.2]
          simp
        have e3 : cut l lo hi = l := by
          unfold cut
          rw [bound_eq, bound_eq, ← z3.length, hw.1, hw.2, z3.length]
          simp
        rw [e3] at q
        exact Post.ok (v := PV.tup _) q (.d (.tup z1 z2 z3)) me
      · exact q (.ref p') _ α (Stp.laid hp) (.d (.tup (SqT.of upd_same) (Nat.le_trans (cutV_length _ _ _) z2) (hc.ext (Ext.new hp)))) (me.upd hp)
  · rename_i l h1
    have d1 := vw_dv ra me (by rw [h1]; rfl)
    rw [h1] at d1
    cases e
    cases d1 with
    | @lst p xs _ z1 z2 z3 =>
      have hc := z3.cut lo hi
      refine .inl (.inr ⟨p, xs, rfl, .inl z1, fun p' hp => ?_⟩)
      refine LK.mk (mu := false) (l := cut l lo hi) (m := m) (E := E) (α := α) (G := G) ?_ hp hc.rp (Nat.le_trans (cutV_length _ _ _) z2) me
      unfold mkl
      rw [if_neg (by decide), if_pos hc.all]
      exact q
  · rename_i l h1
    have d1 := vw_dv ra me (by rw [h1]; rfl)
    rw [h1] at d1
    cases e
    cases d1 with
    | str _ ok sz =>
      have e2 : cutS ⟨l.toArray⟩ lo hi = ⟨(cut l lo hi).toArray⟩ := by
        unfold cutS cut
        rw [bound_eq, bound_eq]
        simp [Str.length]
      refine .inr ⟨_, rfl, by simpa [Str.length] using sz, .inl ?_⟩
      rw [e2]
      refine Post.ok (v := PV.str _) q (.d (.str _ (strOk_sub ok ?_) ?_)) me
      · intro z hz
        exact List.mem_of_mem_drop (List.mem_of_mem_take hz)
      · refine Nat.le_trans ?_ sz
        unfold cut
        rw [List.length_take, List.length_drop]
        omega
  · cases e
/-! ### built-in functions -/
theorem bools_fz {K : PySem.W.Frag} : ∀ {xs : List V} {l : List PV} {is : List Bool}, FzAll K H xs l → boolsOf l = some is → xs = is.map V.bl
  | _, _, _, .nil, e => by cases e; rfl
  | _, _, _, .cons a b, e => by
    cases a with
    | bl i =>
      simp only [boolsOf] at e
      obtain ⟨is, e1, e2⟩ := Option.map_eq_some_iff.mp e
      subst e2
      rw [bools_fz b e1]; rfl
    | _ => simp [boolsOf] at e
theorem one_arg {xs : List V} {x : PV} (h : RpAll G H α xs [x]) : ∃ v, xs = [v] ∧ Rp G H α v x := by
  cases h with
  | cons a b => cases b; exact ⟨_, rfl, a⟩
def bfId : Bf → Option (Str × Value)
  | .len => some ("len", .builtin "len")
  | .abs => some ("abs", .builtin "abs")
  | .int_ => some ("int", .type "int")
  | .tuple => some ("tuple", .type "tuple")
  | .list => some ("list", .type "list")
  | .all => some ("all", .builtin "all")
  | .any => some ("any", .builtin "any")
  | .sum => some ("sum", .builtin "sum")
  | .max => some ("max", .builtin "max")
  | .min => some ("min", .builtin "min")
  | _ => none
theorem foldl_max : ∀ (l : List Int) (a : Int), (l.foldl max a ∈ a :: l) ∧ ∀ y ∈ a :: l, y ≤ l.foldl max a
  | [], a => by simp
  | b :: l, a => by
    obtain ⟨h1, h2⟩ := foldl_max l (max a b)
    rw [List.foldl_cons]
    refine ⟨?_, fun y hy => ?_⟩
    · rcases List.mem_cons.mp h1 with e | e
      · rw [e]
        by_cases h : a ≤ b
        · rw [Int.max_eq_right h]; simp
        · rw [Int.max_eq_left (by omega)]; simp
      · simp [e]
    · have h3 := h2 (max a b) (by simp)
      have h4 : a ≤ max a b := Int.le_max_left a b
      have h5 : b ≤ max a b := Int.le_max_right a b
      rcases List.mem_cons.mp hy with e | e
      · omega
      · rcases List.mem_cons.mp e with e | e
        · omega
        · exact h2 y (by simp [e])
theorem foldl_min : ∀ (l : List Int) (a : Int), (l.foldl min a ∈ a :: l) ∧ ∀ y ∈ a :: l, l.foldl min a ≤ y
  | [], a => by simp
  | b :: l, a => by
    obtain ⟨h1, h2⟩ := foldl_min l (min a b)
    rw [List.foldl_cons]
    refine ⟨?_, fun y hy => ?_⟩
    · rcases List.mem_cons.mp h1 with e | e
      · rw [e]
        by_cases h : a ≤ b
        · rw [Int.min_eq_left h]; simp
        · rw [Int.min_eq_right (by omega)]; simp
      · simp [e]
    · have h3 := h2 (min a b) (by simp)
      have h4 : min a b ≤ a := Int.min_le_left a b
      have h5 : min a b ≤ b := Int.min_le_right a b
      rcases List.mem_cons.mp hy with e | e
      · omega
      · rcases List.mem_cons.mp e with e | e
        · omega
        · exact h2 y (by simp [e])
theorem max_unique {l : List Int} {a k : Int} {is : List Int} (e : l = a :: is) (h1 : k ∈ l) (h2 : ∀ y, y ∈ l → y ≤ k) : k = is.foldl max a := by
  subst e
  obtain ⟨h3, h4⟩ := foldl_max is a
  have := h2 _ h3
  have := h4 _ h1
  omega
theorem min_unique {l : List Int} {a k : Int} {is : List Int} (e : l = a :: is) (h1 : k ∈ l) (h2 : ∀ y, y ∈ l → k ≤ y) : k = is.foldl min a := by
  subst e
  obtain ⟨h3, h4⟩ := foldl_min is a
  have := h2 _ h3
  have := h4 _ h1
  omega
theorem call_bf (hK : X.K = G.K) (hc : X.calm = true) {b : Bf} {nm : Str} {f : Value} (hb : bfId b = some (nm, f)) {mu : Bool} {xs : List V} {l : List PV} {us : List Value} {Q : VK} (I : L2.Inv X pins σ H s) (r : Vals xs us) (ra : RpAll G H α xs l) (me : MemR G H α m)
    (q : Post G (Rp G) (callB mu b l m) H α Q E) : wpAny (model X.prog X.w) X.A (call f us) (EP X pins σ Q) X.xe s := by
  unfold callB at q
  split at q
  · -- len
    rename_i x
    cases hb
    obtain ⟨v, rfl, rv⟩ := one_arg ra
    split at q
    · rename_i l' h1
      have d1 := vw_dv rv me (by rw [h1]; rfl)
      rw [h1] at d1
      cases d1 with
      | tup z1 z2 z3 =>
        rw [← hK] at z1
        exact call_len_seq pins s σ H _ us Q I r ⟨_, _, rfl, .inr z1, by rw [z3.length]; exact Post.ok (v := PV.int _) q (.d (.int _)) me⟩
    · rename_i l' h1
      have d1 := vw_dv rv me (by rw [h1]; rfl)
      rw [h1] at d1
      cases d1 with
      | lst z1 z2 z3 => exact call_len_seq pins s σ H _ us Q I r ⟨_, _, rfl, .inl (.inl z1), by rw [z3.length]; exact Post.ok (v := PV.int _) q (.d (.int _)) me⟩
    · rename_i l' h1
      have d1 := vw_dv rv me (by rw [h1]; rfl)
      rw [h1] at d1
      cases d1 with
      | str _ ok sz =>
        have e : (⟨l'.toArray⟩ : Str).length = l'.length := by simp [Str.length]
        exact call_len_str pins s σ H _ us Q I r ⟨_, rfl, by rw [e]; exact sz, by rw [e]; exact Post.ok (v := PV.int _) q (.d (.int _)) me⟩
    · rename_i k h1
      obtain ⟨w, e, q⟩ := Post.lftv q
      obtain ⟨l', e1, rfl⟩ := Option.map_eq_some_iff.mp e
      have ha : x = .cell k := by
        cases x with
        | cell j =>
          unfold vw at h1
          cases q2 : m[j]? with
          | none => simp only [q2] at h1; exact h1
          | some l' =>
            simp only [q2] at h1
            split at h1
            · cases h1
            · exact h1
        | _ => cases h1
      subst ha
      cases rv with
      | d h => cases h
      | cell h =>
        obtain ⟨ys, h2, h3, h4⟩ := me.at_ k _ l' h e1
        exact call_len_seq pins s σ H _ us Q I r ⟨_, _, rfl, .inl (SqL.of h2), by rw [Paired.length h3]; exact Post.ok (v := PV.int _) q (.d (.int _)) me⟩
    · exact q.elim
  · -- abs
    rename_i i
    cases hb
    obtain ⟨v, rfl, rv⟩ := one_arg ra
    have e := fz_int rv
    subst e
    exact call_abs pins s σ H _ us Q I r ⟨_, rfl, Post.ok (v := PV.int _) q (.d (.int _)) me⟩
  · -- int
    rename_i i
    cases hb
    obtain ⟨v, rfl, rv⟩ := one_arg ra
    have e := fz_int rv
    subst e
    exact call_int1 pins s σ H _ us Q I r (.inl ⟨_, rfl, Post.ok (v := PV.int _) q (.d (.int _)) me⟩)
  · -- tuple
    rename_i x
    cases hb
    obtain ⟨v, rfl, rv⟩ := one_arg ra
    split at q
    · rename_i l' h1
      have d1 := vw_dv rv me (by rw [h1]; rfl)
      rw [h1] at d1
      cases d1 with
      | tup z1 z2 z3 =>
        have z1' := z1
        rw [← hK] at z1'
        exact call_tuple_of pins s σ H _ us Q I r ⟨_, _, rfl, .inr ⟨z1', Post.ok (v := PV.tup _) q (.d (.tup z1 z2 z3)) me⟩⟩
    · rename_i l' h1
      have d1 := vw_dv rv me (by rw [h1]; rfl)
      rw [h1] at d1
      cases d1 with
      | lst z1 z2 z3 =>
        exact call_tuple_of pins s σ H _ us Q I r ⟨_, _, rfl, .inl ⟨.inl z1, fun p hp => q (.ref p) _ α (Stp.laid hp) (.d (.tup (SqT.of upd_same) z2 (z3.ext (Ext.new hp)))) (me.upd hp)⟩⟩
    · exact q.elim
  · -- list
    rename_i x
    cases hb
    obtain ⟨v, rfl, rv⟩ := one_arg ra
    split at q
    · rename_i l' h1
      have d1 := vw_dv rv me (by rw [h1]; rfl)
      rw [h1] at d1
      cases d1 with
      | tup z1 z2 z3 =>
        rw [← hK] at z1
        exact thnLK (call_list_of pins s σ H _ us _ I r ⟨_, _, rfl, .inr z1, fun p hp => LK.mk q hp z3.rp z2 me⟩)
    · rename_i l' h1
      have d1 := vw_dv rv me (by rw [h1]; rfl)
      rw [h1] at d1
      cases d1 with
      | lst z1 z2 z3 => exact thnLK (call_list_of pins s σ H _ us _ I r ⟨_, _, rfl, .inl (.inl z1), fun p hp => LK.mk q hp z3.rp z2 me⟩)
    · rename_i k h1
      have ha : x = .cell k := by
        cases x with
        | cell j =>
          unfold vw at h1
          cases q2 : m[j]? with
          | none => simp only [q2] at h1; exact h1
          | some l' =>
            simp only [q2] at h1
            split at h1
            · cases h1
            · exact h1
        | _ => cases h1
      subst ha
      cases e1 : m[k]? with
      | none => simp only [e1] at q; exact q.elim
      | some l' =>
        simp only [e1] at q
        cases rv with
        | d h => cases h
        | cell h =>
          obtain ⟨ys, h2, h3, h4⟩ := me.at_ k _ l' h e1
          exact thnLK (call_list_of pins s σ H _ us _ I r ⟨_, _, rfl, .inl (SqL.of h2), fun p hp => LK.mk q hp h3 h4 me⟩)
    · exact q.elim
  · -- all
    rename_i x
    cases hb
    obtain ⟨v, rfl, rv⟩ := one_arg ra
    split at q
    · rename_i l' h1
      have d1 := vw_dv rv me (by rw [h1]; rfl)
      rw [h1] at d1
      obtain ⟨w, e, q⟩ := Post.lftv q
      obtain ⟨bs, e1, rfl⟩ := Option.map_eq_some_iff.mp e
      cases d1 with
      | lst z1 z2 z3 =>
        have h2 := bools_fz z3 e1
        subst h2
        exact cr_all hc pins s σ H _ us Q I r ⟨_, _, rfl, .inl z1, Post.ok (v := PV.bl _) q (.d (.bl _)) me⟩
    · exact q.elim
  · -- any
    rename_i x
    cases hb
    obtain ⟨v, rfl, rv⟩ := one_arg ra
    split at q
    · rename_i l' h1
      have d1 := vw_dv rv me (by rw [h1]; rfl)
      rw [h1] at d1
      obtain ⟨w, e, q⟩ := Post.lftv q
      obtain ⟨bs, e1, rfl⟩ := Option.map_eq_some_iff.mp e
      cases d1 with
      | lst z1 z2 z3 =>
        have h2 := bools_fz z3 e1
        subst h2
        exact cr_any hc pins s σ H _ us Q I r ⟨_, _, rfl, .inl z1, Post.ok (v := PV.bl _) q (.d (.bl _)) me⟩
    · exact q.elim
  · -- sum
    rename_i x
    cases hb
    obtain ⟨v, rfl, rv⟩ := one_arg ra
    split at q
    · rename_i l' h1
      have d1 := vw_dv rv me (by rw [h1]; rfl)
      rw [h1] at d1
      obtain ⟨w, e, q⟩ := Post.lftv q
      obtain ⟨bs, e1, rfl⟩ := Option.map_eq_some_iff.mp e
      cases d1 with
      | lst z1 z2 z3 =>
        have h2 := ints_fz z3 e1
        subst h2
        exact cr_sum hc pins s σ H _ us Q I r ⟨_, _, rfl, .inl z1, Post.ok (v := PV.int _) q (.d (.int _)) me⟩
    · exact q.elim
  · -- max
    rename_i x
    cases hb
    obtain ⟨v, rfl, rv⟩ := one_arg ra
    split at q
    · rename_i l' h1
      have d1 := vw_dv rv me (by rw [h1]; rfl)
      rw [h1] at d1
      split at q
      · rename_i i is e1
        cases d1 with
        | lst z1 z2 z3 =>
          have h2 := ints_fz z3 e1
          subst h2
          exact cr_max hc pins s σ H _ us Q I r ⟨_, _, rfl, .inl z1, by simp, fun k h3 h4 => by
            rw [max_unique rfl h3 h4]; exact Post.ok (v := PV.int _) q (.d (.int _)) me⟩
      · exact q.elim
    · exact q.elim
  · -- min
    rename_i x
    cases hb
    obtain ⟨v, rfl, rv⟩ := one_arg ra
    split at q
    · rename_i l' h1
      have d1 := vw_dv rv me (by rw [h1]; rfl)
      rw [h1] at d1
      split at q
      · rename_i i is e1
        cases d1 with
        | lst z1 z2 z3 =>
          have h2 := ints_fz z3 e1
          subst h2
          exact cr_min hc pins s σ H _ us Q I r ⟨_, _, rfl, .inl z1, by simp, fun k h3 h4 => by
            rw [min_unique rfl h3 h4]; exact Post.ok (v := PV.int _) q (.d (.int _)) me⟩
      · exact q.elim
    · exact q.elim
  · cases hb
  · cases hb
  · exact q.elim
/-! ### isinstance -/
def tyN : Ty → String
  | .int => "int"
  | .bool => "bool"
  | .str => "str"
  | .tuple => "tuple"
  | .list => "list"
theorem tyx_ok {x : V} {a : PV} (h : Rp G H α x a) (hd : a.isD = true) : ∃ t, TyX G.K H x (.type t) ∧ (t = match a with | .non => "NoneType" | .bl _ => "bool" | .int _ => "int" | .str _ => "str" | .tup _ => "tuple" | _ => "list") := by
  have f := h.fz hd
  cases f with
  | non => exact ⟨_, .base .non, rfl⟩
  | bl b => exact ⟨_, .base (.bl b), rfl⟩
  | int b => exact ⟨_, .base (.int b), rfl⟩
  | str b _ _ => exact ⟨_, .base (.str _), rfl⟩
  | tup z1 z2 z3 =>
    refine ⟨"tuple", ?_, rfl⟩
    rcases z1 with (h | ⟨o, h⟩) | ⟨o, its, k, h1, h2, _⟩
    · exact .base (.tup h)
    · exact .fTuple h
    · exact .kTuple h1 h2
  | lst z1 z2 z3 =>
    obtain ⟨o, h⟩ := z1
    exact ⟨"list", .base (.frz h), rfl⟩
theorem kit_dec : ∀ t ∈ ["NoneType", "bool", "int", "str", "tuple", "list"], ∀ u ∈ ["int", "bool", "str", "tuple", "list"], L2.kitB t u = some (decide (t = u) || (t == "bool" && u == "int")) := by decide +kernel
theorem isi_ok (hK : X.K = G.K) {x : V} {a : PV} {t : Ty} {Q : VK} (ra : Rp G H α x a) (me : MemR G H α m) (q : Post G (Rp G) (lft ((isTy m a t).map .bl) m) H α Q E) : rIsi X.K [x, .ty (tyN t)] H Q := by
  obtain ⟨b, e, q⟩ := Post.lftb q me
  have hd : a.isD = true := by
    cases a <;> first | rfl | (cases t <;> cases e)
  obtain ⟨ty, h1, h2⟩ := tyx_ok ra hd
  rw [hK]
  refine ⟨x, _, .type ty, _, b, rfl, .ty _, h1, kit_ty ?_, q⟩
  have key : ∀ (u : String), u ∈ ["NoneType", "bool", "int", "str", "tuple", "list"] → L2.kitB u (tyN t) = some (decide (u = tyN t) || (u == "bool" && tyN t == "int")) := fun u hu => kit_dec u hu _ (by cases t <;> simp [tyN])
  subst h2
  cases a with
  | cell _ => cases hd
  | fn _ => cases hd
  | non => rw [key _ (by simp)]; cases t <;> (cases e; rfl)
  | bl c => rw [key _ (by simp)]; cases t <;> (cases e; rfl)
  | int c => rw [key _ (by simp)]; cases t <;> (cases e; rfl)
  | str c => rw [key _ (by simp)]; cases t <;> (cases e; rfl)
  | tup c => rw [key _ (by simp)]; cases t <;> (cases e; rfl)
  | lst c => rw [key _ (by simp)]; cases t <;> (cases e; rfl)
end
end Pv
namespace Pv
open PySem PySem.Spec PyProof.Rows L2
/-! ## The check: a text of Python against the evaluator's text -/
structure Nm where
  fx : List Str
  cx : List Str
  kx : List Str
  bx : List Str
def Glo.nms (G : Glo) : Nm := ⟨G.fx, G.cx, G.kx, G.bx⟩
def plain : Expr → Bool
  | .Set .. => false
  | .Starred .. => false
  | .Slice .. => false
  | .SetComp .. => false
  | .DictComp .. => false
  | .NamedExpr .. => false
  | _ => true
def glB (sc : Scope) (x : Str) : Bool := decide (sc.names.lookup x = some .globalImplicit) && !(x == ("__debug__" : Str))
def visB (sc : Scope) (x : Str) : Bool := (match sc.names.lookup x with
  | some .local => true
  | some .cell => true
  | some .free => true
  | _ => false) && !(x == ("__debug__" : Str)) && !(x == ("__classdict__" : Str))
def bltB (nm : Nm) (sc : Scope) (x : Str) : Bool := nm.bx.contains x && glB sc x && !(x == ("__name__" : Str))
def opB : Op → Operator → Bool
  | .add, .Add => true
  | .sub, .Sub => true
  | .mul, .Mult => true
  | .fdiv, .FloorDiv => true
  | .mod, .Mod => true
  | .pow, .Pow => true
  | .band, .BitAnd => true
  | .bor, .BitOr => true
  | .bxor, .BitXor => true
  | .shr, .RShift => true
  | _, _ => false
theorem opB_ok {o : Op} {p : Operator} (h : opB o p = true) : p = opOp o := by
  cases o <;> cases p <;> first | rfl | cases h
def cmB : Cm → CmpOp → Bool
  | .eq, .Eq => true
  | .ne, .NotEq => true
  | .lt, .Lt => true
  | .le, .LtE => true
  | .gt, .Gt => true
  | .ge, .GtE => true
  | .is_, .Is => true
  | .isnot, .IsNot => true
  | .in_, .In => true
  | .notin, .NotIn => true
  | _, _ => false
theorem cmB_ok {o : Cm} {p : CmpOp} (h : cmB o p = true) : p = cmOp o := by
  cases o <;> cases p <;> first | rfl | cases h
def ownOf (N : List Str) (own : List Nat) : List (Str × Nat) := own.map fun i => (N.getD i Str.empty, i)
section
variable (nm : Nm) (N : List Str)
mutual
def chkT (fc : Str → Bool) (sc : Scope) : Tg → Expr → Bool
  | .v i, .Name x _ => decide (N[i]? = some x) && (decide (sc.names.lookup x = some .local) || (decide (sc.names.lookup x = some .cell) && fc x))
  | .t l, .Tuple es _ _ => chkTs fc sc l es
  | _, _ => false
def chkTs (fc : Str → Bool) (sc : Scope) : Tg → List Expr → Bool
  | .nil, [] => true
  | .cons a l, e :: es => chkT fc sc a e && chkTs fc sc l es
  | _, _ => false
end
def _root_.Pv.Tg.slots : Tg → List Nat
  | .v i => [i]
  | .t l => l.slots
  | .nil => []
  | .cons a l => a.slots ++ l.slots
def srcT : E → Expr → Bool
  | .zip _ _, .Tuple .. => true
  | .zip _ _, _ => false
  | .enu _, .Tuple .. => true
  | .enu _, _ => false
  | _, _ => true
def keysB : List (List Nat) → List (Option Expr) → Bool
  | [], [] => true
  | k :: ks, some (.Constant (.str x) _ _) :: es => decide (x = ⟨k.toArray⟩) && keysB ks es
  | _, _ => false
def tyB (t : Ty) (x : Str) : Bool := x == Str.ofString (tyN t)
mutual
def chkE : E → Scope → Expr → Bool
  | .k v, sc, e => (match v, e with
    | .non, .Constant .none _ _ => true
    | .bl b, .Constant (.bool c) _ _ => b == c
    | .int i, .Constant (.int j) _ _ => decide (i = j)
    | .str s, .Constant (.str x) _ _ => decide (x = ⟨s.toArray⟩) && PyData.strOk ⟨s.toArray⟩ && decide (s.length ≤ 1000)
    | .fn i, .Name x _ => decide (nm.fx[i]? = some x) && glB sc x
    | _, _ => false)
  | .loc i, sc, .Name x _ => decide (N[i]? = some x) && visB sc x
  | .glo i, sc, .Name x _ => decide (nm.cx[i]? = some x) && glB sc x
  | .bin _ o a b, sc, .BinOp l op r _ => opB o op && chkE a sc l && chkE b sc r
  | .neg a, sc, .UnaryOp .USub e _ => chkE a sc e
  | .not a, sc, .UnaryOp .Not e _ => chkE a sc e
  | .and a b, sc, .BoolOp .And (x :: y :: r) pos => chkE a sc x && (match r with
    | [] => chkE b sc y
    | _ => chkE b sc (.BoolOp .And (y :: r) pos))
  | .or a b, sc, .BoolOp .Or (x :: y :: r) pos => chkE a sc x && (match r with
    | [] => chkE b sc y
    | _ => chkE b sc (.BoolOp .Or (y :: r) pos))
  | .cmp c a b, sc, .Compare l [op] [r] _ => cmB c op && chkE a sc l && chkE b sc r
  | .cmp2 c d a b e, sc, .Compare l [op, op'] [r, z] _ => cmB c op && cmB d op' && chkE a sc l && chkE b sc r && chkE e sc z
  | .ite c a b, sc, .IfExp t x y _ => chkE c sc t && chkE a sc x && chkE b sc y
  | .tup l, sc, .Tuple es _ _ => chkL l sc es
  | .lst _ l, sc, .List es _ => chkL l sc es
  | .ix a b, sc, .Subscript x y _ => chkE a sc x && chkE b sc y
  | .sl a lo hi, sc, .Subscript x (.Slice l h none _) _ => chkE a sc x && (match lo, l with
    | .k .non, none => true
    | lo, some l => chkE lo sc l
    | _, _ => false) && (match hi, h with
    | .k .non, none => true
    | hi, some h => chkE hi sc h
    | _, _ => false)
  | .call f l, sc, .Call (.Name x _) es [] _ => decide (nm.fx[f]? = some x) && glB sc x && chkL l sc es
  | .bf _ b l, sc, .Call (.Name x _) (e :: es) [] _ => (match bfId b, e with
    | none, .Call (.Name y _) [e] [] _ => (match b, es with
      | .sortset, [] => decide (x = Str.ofString "sorted") && bltB nm sc x && decide (y = Str.ofString "set") && bltB nm sc y && chkL l sc [e]
      | _, _ => false)
    | none, _ => false
    | some (z, _), e => decide (x = z) && bltB nm sc x && chkL l sc (e :: es))
  | .callv f l, sc, .Call (.Name x p) es [] _ => chkE f sc (.Name x p) && chkL l sc es
  | .isi a t, sc, .Call (.Name x _) [e, .Name y _] [] _ => decide (x = Str.ofString "isinstance") && bltB nm sc x && chkE a sc e && tyB t y && bltB nm sc y
  | .comp _ own t s c e, sc, .ListComp elt [⟨tg, iter, ifs, asy⟩] scope _ => decide (asy = 0) && srcT s tg && chkE s sc iter && blkC N sc scope (ownOf N own) && chkT N (fun x => scope.names.lookup x == some .cell) (relS scope sc) t tg && t.slots.all (fun i => own.contains i) && (match ifs with
    | [] => (match c with
      | .k (.bl true) => true
      | _ => false)
    | [i] => chkE c (relS scope sc) i
    | _ => false) && chkE e (relS scope sc) elt
  | .app o e, sc, .Call (.Attribute x y apos) [z] [] pos => decide (y = Str.ofString "append") && decide (apos.endLine = pos.line) && chkE o sc x && chkE e sc z && (match x with
    | .Name .. => true
    | _ => false)
  | .popl o, sc, .Call (.Attribute x y apos) [] [] pos => decide (y = Str.ofString "pop") && decide (apos.endLine = pos.line) && chkE o sc x && (match x with
    | .Name .. => true
    | _ => false)
  | .popi o i, sc, .Call (.Attribute x y apos) [z] [] pos => decide (y = Str.ofString "pop") && decide (apos.endLine = pos.line) && chkE o sc x && chkE i sc z && (match x with
    | .Name .. => true
    | _ => false)
  | .rng a, sc, .Call (.Name x _) [e] [] _ => decide (x = Str.ofString "range") && bltB nm sc x && chkE a sc e
  | .rng2 a b, sc, .Call (.Name x _) [e, f] [] _ => decide (x = Str.ofString "range") && bltB nm sc x && chkE a sc e && chkE b sc f
  | .zip a b, sc, .Call (.Name x _) [e, f] [] _ => decide (x = Str.ofString "zip") && bltB nm sc x && chkE a sc e && chkE b sc f
  | .dget ks vs k d, sc, .Call (.Attribute (.Dict kes ves _) y apos) [e, f] [] pos => decide (y = Str.ofString "get") && decide (apos.endLine = pos.line) && keysB ks kes && decide ks.Nodup && decide (ks.length = ves.length) && decide (ks ≠ []) && decide (ks.length ≤ 15) && chkL vs sc ves && chkE k sc e && chkE d sc f
  | _, _, _ => false
def chkL : E → Scope → List Expr → Bool
  | .nil, _, [] => true
  | .cons a l, sc, e :: es => chkE a sc e && chkL l sc es
  | _, _, _ => false
end
end
mutual
/-- range, enumerate, zip stand at sources alone -/
def vOk : E → Bool
  | .rng _ => false
  | .rng2 _ _ => false
  | .enu _ => false
  | .zip _ _ => false
  | .bin _ _ a b => vOk a && vOk b
  | .neg a => vOk a
  | .not a => vOk a
  | .and a b => vOk a && vOk b
  | .or a b => vOk a && vOk b
  | .cmp _ a b => vOk a && vOk b
  | .cmp2 _ _ a b e => vOk a && vOk b && vOk e
  | .ite c a b => vOk c && vOk a && vOk b
  | .cons a l => vOk a && vOk l
  | .tup l => vOk l
  | .lst _ l => vOk l
  | .ix a b => vOk a && vOk b
  | .sl a b c => vOk a && vOk b && vOk c
  | .rev a => vOk a
  | .call _ l => vOk l
  | .callv f l => vOk f && vOk l
  | .bf _ _ l => vOk l
  | .isi a _ => vOk a
  | .comp _ _ _ s c e => iOk s && vOk c && vOk e
  | .app a b => vOk a && vOk b
  | .popl a => vOk a
  | .popi a b => vOk a && vOk b
  | .index a b => vOk a && vOk b
  | .dget _ a b c => vOk a && vOk b && vOk c
  | _ => true
def iOk : E → Bool
  | .rng a => vOk a
  | .rng2 a b => vOk a && vOk b
  | .enu a => vOk a
  | .zip a b => vOk a && vOk b
  | .bin _ _ a b => vOk a && vOk b
  | .ite c a b => vOk c && vOk a && vOk b
  | .tup l => vOk l
  | .lst _ l => vOk l
  | .ix a b => vOk a && vOk b
  | .sl a b c => vOk a && vOk b && vOk c
  | .rev a => vOk a
  | .call _ l => vOk l
  | .callv f l => vOk f && vOk l
  | .bf _ _ l => vOk l
  | .comp _ _ _ s c e => iOk s && vOk c && vOk e
  | .popl a => vOk a
  | .popi a b => vOk a && vOk b
  | .dget _ a b c => vOk a && vOk b && vOk c
  | .loc _ => true
  | .glo _ => true
  | .k _ => true
  | _ => false
end
end Pv
namespace Pv
open PySem PySem.Spec PyProof.Rows L2
/-! ## Expressions -/
def GoodJ (G : Glo) (H : Hp) (α : Al) (J : It) (sv : PV) : Prop := ∃ l, (sv = .tup l ∨ sv = .lst l) ∧ l.length ≤ sizeLine ∧ ∃ (Gd : Hp → Prop) (Y : Nat → Hp → V → Hp → Prop), Walk J l.length Gd Y ∧ (∀ H', Ext H H' → Gd H') ∧
  ∀ i H1 x H2, Ext H H1 → i < l.length → Y i H1 x H2 → (H2 = H1 ∨ ∃ T o, H1 T = none ∧ H2 = L2.upd H1 T o) ∧ ∃ it, l[i]? = some it ∧ Fz G.K H2 x it
def sq : PV → Mem → R PV
  | .tup l, m => .ok (.tup l) m
  | .lst l, m => .ok (.lst l) m
  | _, _ => .no
def tI (G : Glo) (n : Nat) (W : WX) (c : E) : TI := fun σ H R => ∃ α ρ m, EnvR G H α ρ σ ∧ MemR G H α m ∧ Post G (GoodJ G) (bnd (evE G.pr.con (run G.pr n) c ρ m) sq) H α R (wE W σ)
def OkE (G : Glo) (n : Nat) (c : E) : Prop := ∀ (N : List Str) (sc : Scope) (e : Expr) (X : Cx) (W : WX), CG G n N sc W X → chkE G.nms N c sc e = true → PE X e (tE G n W c)
def OkT (G : Glo) (n : Nat) (c : E) : Prop := ∀ (N : List Str) (sc : Scope) (e : Expr) (X : Cx) (W : WX), CG G n N sc W X → chkE G.nms N c sc e = true → PT X e (tT G n W c)
def OkL (G : Glo) (n : Nat) (c : E) : Prop := ∀ (N : List Str) (sc : Scope) (es : List Expr) (X : Cx) (W : WX), CG G n N sc W X → chkL G.nms N c sc es = true → PA X es (tA G n W c)
def OkI (G : Glo) (n : Nat) (c : E) : Prop := ∀ (N : List Str) (sc : Scope) (e : Expr) (tg : Expr) (X : Cx) (W : WX), CG G n N sc W X → srcT c tg = true → chkE G.nms N c sc e = true → PI X tg e (tI G n W c)
section
variable {G : Glo} {n : Nat} {N : List Str} {sc : Scope} {X : Cx} {W : WX}
theorem gl_ok (C : CG G n N sc W X) {x : Str} (h : glB sc x = true) : Gl X x ∧ (x == ("__debug__" : Str)) = false := by
  unfold glB at h
  simp only [Bool.and_eq_true, decide_eq_true_eq, Bool.not_eq_true'] at h
  exact ⟨by show X.env.scope.names.lookup x = _; rw [C.sc]; exact h.1, h.2⟩
theorem vis_ok (C : CG G n N sc W X) {x : Str} (h : visB sc x = true) : Vis X.env.scope x ∧ (x == ("__debug__" : Str)) = false ∧ (x == ("__classdict__" : Str)) = false := by
  unfold visB at h
  simp only [Bool.and_eq_true, Bool.not_eq_true'] at h
  obtain ⟨⟨h1, h2⟩, h3⟩ := h
  refine ⟨?_, h2, h3⟩
  rw [C.sc]
  unfold Vis
  split at h1
  · rename_i q; exact .inl q
  · rename_i q; exact .inr (.inl q)
  · rename_i q; exact .inr (.inr q)
  · cases h1
theorem blt_ok (hG : GOk G) (C : CG G n N sc W X) {x : Str} (h : bltB G.nms sc x = true) : Gl X x ∧ X.mg x = none ∧ x ≠ "__name__" ∧ (x == ("__debug__" : Str)) = false := by
  unfold bltB at h
  simp only [Bool.and_eq_true, Bool.not_eq_true'] at h
  obtain ⟨⟨h1, h2⟩, h3⟩ := h
  obtain ⟨g1, g2⟩ := gl_ok C h2
  refine ⟨g1, ?_, fun z => by rw [z] at h3; simp at h3, g2⟩
  rw [C.mg]
  exact hG.bt x (by simpa [Glo.nms] using h1)
theorem starEach_plain {e : Expr} {es : List Expr} {env : PySem.Env} (h : plain e = true) : starEach (e :: es) env = (false, eval e env) :: starEach es env := by
  cases e <;> first | rfl | cases h
theorem plainIx {e : Expr} (h : plain e = true) : PlainIx e := by
  intro o i
  cases e <;> first | rfl | cases h
theorem behind_plain {e : Expr} {op : CmpOp} (h : plain e = true) : behindInMarks op e = false := by
  cases e <;> first | rfl | cases h
theorem lastMarks_plain {e z : Expr} {op op' : CmpOp} (h : plain z = true) : lastMarks [op, op'] [e, z] = false := by
  show behindInMarks op' z = false
  exact behind_plain h
theorem folded_plain {e : Expr} {env : PySem.Env} (h : plain e = true) (x : Value) : foldedSetIterable e env x = pure x := by
  cases e <;> first | rfl | cases h
theorem attr_plain {e : Expr} {env : PySem.Env} {a : Str} {w : Sem Value} (h : (match e with | .Name .. => true | _ => false) = true) : attributeBase e a env w = w := by
  cases e <;> first | rfl | cases h
theorem back_star {es : List Expr} {env : PySem.Env} {pos : Pos} (h : ∀ e ∈ es, plain e = true) : (backTo pos (starEach es env)).any (·.1) = false := by
  induction es with
  | nil => rfl
  | cons e es ih =>
    rw [starEach_plain (h e (by simp))]
    show (false || (backTo pos (starEach es env)).any (·.1)) = false
    rw [ih fun x hx => h x (by simp [hx])]
    rfl
theorem chk_plain {nm : Nm} {c : E} {e : Expr} (h : chkE nm N c sc e = true) : plain e = true := by
  cases e with
  | Set _ _ _ => cases c <;> first | (simp only [chkE, Bool.false_eq_true] at h; done) | (rename_i v; cases v <;> simp only [chkE, Bool.false_eq_true] at h; done)
  | Starred _ _ => cases c <;> first | (simp only [chkE, Bool.false_eq_true] at h; done) | (rename_i v; cases v <;> simp only [chkE, Bool.false_eq_true] at h; done)
  | Slice _ _ _ _ => cases c <;> first | (simp only [chkE, Bool.false_eq_true] at h; done) | (rename_i v; cases v <;> simp only [chkE, Bool.false_eq_true] at h; done)
  | SetComp _ _ _ _ => cases c <;> first | (simp only [chkE, Bool.false_eq_true] at h; done) | (rename_i v; cases v <;> simp only [chkE, Bool.false_eq_true] at h; done)
  | DictComp _ _ _ _ _ => cases c <;> first | (simp only [chkE, Bool.false_eq_true] at h; done) | (rename_i v; cases v <;> simp only [chkE, Bool.false_eq_true] at h; done)
  | NamedExpr _ _ _ => cases c <;> first | (simp only [chkE, Bool.false_eq_true] at h; done) | (rename_i v; cases v <;> simp only [chkE, Bool.false_eq_true] at h; done)
  | _ => rfl
theorem chkL_plain {nm : Nm} : ∀ {c : E} {es : List Expr}, chkL nm N c sc es = true → ∀ e ∈ es, plain e = true := by
  intro c es
  induction es generalizing c with
  | nil => intro _ e he; simp at he
  | cons a es ih =>
    intro h e he
    cases c <;> simp only [chkL, Bool.false_eq_true, Bool.and_eq_true] at h
    rcases List.mem_cons.mp he with rfl | he
    · exact chk_plain h.1
    · exact ih h.2 e he
/-- a comprehension's block -/
theorem CG.blk (C : CG G n N sc W X) (s : Shared) (H : Hp) (scope : Scope) (hk : scope.kind = .function) (Ca : Addr) (cl : List (Str × Addr)) (fp : List Addr) : CG G n N (relS scope sc) (fun _ _ _ _ => False) (X.blk s H scope (compEnvC scope cl Ca X.env) fp) :=
  ⟨C.prog, C.w, C.K, C.mg, C.base, C.nm, C.nd, hk, by rw [← C.sc]; rfl, C.room, C.calm, fun u s' ⟨_, _, _, _, _, _, _, _, _, _, _, _, _, _, _, _, w⟩ => w.elim, PassesOwn.never⟩
end
/-! ### the simple ones -/
section
variable {G : Glo} {n : Nat}
theorem ok_k (hG : GOk G) (v : PV) : OkE G n (.k v) := by
  intro N sc e X W C h
  simp only [chkE] at h
  split at h
  · exact PE.weak pe_non fun σ H Q ⟨α, ρ, m, re, me, q⟩ => Post.ok (v := PV.non) q (.d .non) me
  · have e := beq_iff_eq.mp h
    subst e
    exact PE.weak pe_bl fun σ H Q ⟨α, ρ, m, re, me, q⟩ => Post.ok (v := PV.bl _) q (.d (.bl _)) me
  · have e := of_decide_eq_true h
    subst e
    exact PE.weak pe_int fun σ H Q ⟨α, ρ, m, re, me, q⟩ => Post.ok (v := PV.int _) q (.d (.int _)) me
  · simp only [Bool.and_eq_true, decide_eq_true_eq] at h
    obtain ⟨⟨h1, h2⟩, h3⟩ := h
    subst h1
    exact PE.weak pe_str fun σ H Q ⟨α, ρ, m, re, me, q⟩ => Post.ok (v := PV.str _) q (.d (.str _ h2 (by rw [sizeLine_eq]; omega))) me
  · simp only [Bool.and_eq_true, decide_eq_true_eq] at h
    obtain ⟨h1, h2⟩ := h
    obtain ⟨g1, g2⟩ := gl_ok C h2
    obtain ⟨a, e1, e2, e3⟩ := hG.fn _ _ (by simpa [Glo.nms] using h1)
    exact PE.weak (pe_glob (v := .ref a) g1 (by rw [C.mg]; exact e2) rfl g2) fun σ H Q ⟨α, ρ, m, re, me, q⟩ => Post.ok (v := PV.fn _) q (.fn e1) me
  · cases h
theorem ok_loc (i : Nat) : OkE G n (.loc i) := by
  intro N sc e X W C h
  cases e <;> simp only [chkE, Bool.false_eq_true, Bool.and_eq_true, decide_eq_true_eq] at h
  obtain ⟨h1, h2⟩ := h
  obtain ⟨v1, v2, v3⟩ := vis_ok C h2
  refine PE.weak (pe_var (i := i) (by rw [C.nm]; exact h1) v1 v2 v3) fun σ H Q ⟨α, ρ, m, re, me, q⟩ => ?_
  simp only [evE] at q
  split at q
  · rename_i v e
    obtain ⟨x, r1, r2⟩ := re.at_ i v e
    exact ⟨x, r1, Post.ok q r2 me⟩
  · exact q.elim
theorem ok_glo (hG : GOk G) (i : Nat) : OkE G n (.glo i) := by
  intro N sc e X W C h
  cases e <;> simp only [chkE, Bool.false_eq_true, Bool.and_eq_true, decide_eq_true_eq] at h
  obtain ⟨h1, h2⟩ := h
  obtain ⟨g1, g2⟩ := gl_ok C h2
  obtain ⟨v, u, y, e1, e2, e3, e4⟩ := hG.con _ _ (by simpa [Glo.nms] using h1)
  refine PE.weak (pe_glob (v := y) g1 (by rw [C.mg]; exact e2) e3 g2) fun σ H Q ⟨α, ρ, m, re, me, q⟩ => ?_
  simp only [evE, e1, lft_some] at q
  exact Post.ok q (.d (e4 H)) me
theorem ok_bin {mu : Bool} {o : Op} {a b : E} (ha : OkE G n a) (hb : OkE G n b) : OkE G n (.bin mu o a b) := by
  intro N sc e X W C h
  cases e <;> simp only [chkE, Bool.false_eq_true, Bool.and_eq_true] at h
  obtain ⟨⟨h1, h2⟩, h3⟩ := h
  have e := opB_ok h1
  subst e
  have pa := ha N sc _ X W C h2
  have pb := hb N sc _ X W C h3
  refine ⟨fun pins s σ H Q I ⟨α, ρ, m, re, me, q⟩ => ?_⟩
  refine wpAny_BinOp (binT (R := fun x y H2 => ∃ α v w m, Rp G H2 α x v ∧ Rp G H2 α y w ∧ MemR G H2 α m ∧ Post G (Rp G) (binop mu o v w m) H2 α Q (wE W σ)) pa pb I ⟨α, ρ, m, re, me, ?_⟩ ?_)
  · simp only [evE] at q
    refine Post.bnd q fun v m1 x H1 α1 st rv me1 q1 => ⟨α1, ρ, m1, re.ext st.ext st.le, me1, Post.bnd q1 fun w m2 y H2 α2 st2 rw' me2 q2 => ⟨α2, v, w, m2, rv.ext st2.ext st2.le, rw', me2, q2⟩⟩
  · rintro v u s2 x y H2 I2 rx ry ⟨α, v', w', m, r1, r2, me, q⟩
    exact bin_all C.K o I2 rx ry r1 r2 me q
theorem ok_neg {a : E} (ha : OkE G n a) : OkE G n (.neg a) := by
  intro N sc e X W C h
  cases e with
  | UnaryOp op e pos =>
    cases op <;> simp only [chkE, Bool.false_eq_true] at h
    refine PE.weak (pe_un un_neg (ha N sc _ X W C h)) fun σ H Q ⟨α, ρ, m, re, me, q⟩ => ⟨α, ρ, m, re, me, ?_⟩
    simp only [evE] at q
    refine Post.bnd q fun v m1 x H1 α1 st rv me1 q1 => ?_
    split at q1
    · have e := fz_int rv
      subst e
      exact ⟨_, rfl, Post.ok (v := PV.int _) q1 (.d (.int _)) me1⟩
    · exact q1.elim
  | _ => simp only [chkE, Bool.false_eq_true] at h
theorem ok_not {a : E} (ha : OkE G n a) : OkE G n (.not a) := by
  intro N sc e X W C h
  cases e with
  | UnaryOp op e pos =>
    cases op <;> simp only [chkE, Bool.false_eq_true] at h
    have pa := ha N sc _ X W C h
    refine ⟨fun pins s σ H Q I ⟨α, ρ, m, re, me, q⟩ => ?_⟩
    refine UnaryOp_ (thn (pa.run pins s σ H (fun x H1 => ∃ b, TruV G.K x H1 b ∧ Q (.bl (!b)) H1) I ⟨α, ρ, m, re, me, ?_⟩) fun v s1 ⟨x, H1, I1, r1, b, t, q1⟩ => not_of ?_)
    · simp only [evE] at q
      refine Post.bnd q fun v m1 x H1 α1 st rv me1 q1 => ?_
      obtain ⟨w, e1, q2⟩ := Post.lftv q1
      obtain ⟨b, e2, rfl⟩ := Option.map_eq_some_iff.mp e1
      exact ⟨b, truth_ok rv me1 e2, Post.ok (v := PV.bl _) q2 (.d (.bl _)) me1⟩
    · rw [← C.K] at t
      exact thn (tru_ok pins s1 σ H1 x v (fun k H2 => Q (.bl (!k)) H2) I1 r1 ⟨b, t, q1⟩) fun c s2 ⟨H2, I2, q2⟩ => ⟨.bl (!c), H2, I2, rfl, q2⟩
  | _ => simp only [chkE, Bool.false_eq_true] at h
theorem ok_and {a b : E} (ha : OkE G n a) (hb : OkE G n b) : OkE G n (.and a b) := by
  intro N sc e X W C h
  cases e with
  | BoolOp op vs pos =>
    cases op with
    | Or => simp only [chkE, Bool.false_eq_true] at h
    | And =>
      rcases vs with _ | ⟨x, _ | ⟨y, r⟩⟩
      · simp only [chkE, Bool.false_eq_true] at h
      · simp only [chkE, Bool.false_eq_true] at h
      · simp only [chkE, Bool.and_eq_true] at h
        obtain ⟨h1, h2⟩ := h
        have pa := ha N sc _ X W C h1
        have pb : PE X (.BoolOp .And (y :: r) pos) (tE G n W b) := by
          cases r with
          | nil => exact pe_one (hb N sc _ X W C h2)
          | cons z r => exact hb N sc _ X W C h2
        refine PE.weak (pe_and pa pb) fun σ H Q ⟨α, ρ, m, re, me, q⟩ => ⟨α, ρ, m, re, me, ?_⟩
        simp only [evE] at q
        refine Post.bnd q fun v m1 x H1 α1 st rv me1 q1 => ?_
        split at q1
        · have e := fz_bl rv
          subst e
          exact ⟨true, rfl, ⟨α1, ρ, m1, re.ext st.ext st.le, me1, q1⟩⟩
        · have e := fz_bl rv
          subst e
          exact ⟨false, rfl, Post.ok (v := PV.bl false) q1 (.d (.bl false)) me1⟩
        · exact q1.elim
  | _ => simp only [chkE, Bool.false_eq_true] at h
theorem ok_or {a b : E} (ha : OkE G n a) (hb : OkE G n b) : OkE G n (.or a b) := by
  intro N sc e X W C h
  cases e with
  | BoolOp op vs pos =>
    cases op with
    | And => simp only [chkE, Bool.false_eq_true] at h
    | Or =>
      rcases vs with _ | ⟨x, _ | ⟨y, r⟩⟩
      · simp only [chkE, Bool.false_eq_true] at h
      · simp only [chkE, Bool.false_eq_true] at h
      · simp only [chkE, Bool.and_eq_true] at h
        obtain ⟨h1, h2⟩ := h
        have pa := ha N sc _ X W C h1
        have pb : PE X (.BoolOp .Or (y :: r) pos) (tE G n W b) := by
          cases r with
          | nil => exact pe_one (hb N sc _ X W C h2)
          | cons z r => exact hb N sc _ X W C h2
        refine PE.weak (pe_or pa pb) fun σ H Q ⟨α, ρ, m, re, me, q⟩ => ⟨α, ρ, m, re, me, ?_⟩
        simp only [evE] at q
        refine Post.bnd q fun v m1 x H1 α1 st rv me1 q1 => ?_
        split at q1
        · have e := fz_bl rv
          subst e
          exact ⟨true, rfl, Post.ok (v := PV.bl true) q1 (.d (.bl true)) me1⟩
        · have e := fz_bl rv
          subst e
          exact ⟨false, rfl, ⟨α1, ρ, m1, re.ext st.ext st.le, me1, q1⟩⟩
        · exact q1.elim
  | _ => simp only [chkE, Bool.false_eq_true] at h
end
end Pv
namespace Pv
open PySem PySem.Spec PyProof.Rows L2
section
variable {G : Glo} {n : Nat}
/-! ### comparisons -/
def rC (G : Glo) (f : Mem → PV → PV → Option Bool) : R2 := fun x y H Q => ∃ α a b m c, Rp G H α x a ∧ Rp G H α y b ∧ MemR G H α m ∧ f m a b = some c ∧ Q (.bl c) H
theorem Cmp.op {X : Cx} {op : CmpOp} {f : Mem → PV → PV → Option Bool} (h : Cmp G X op f) : OpR X (compareOp op) (rC G f) := by
  intro pins s σ H x y v u Q I rx ry ⟨α, a, b, m, c, ra, rb, me, e, q⟩
  exact h pins s σ H x y v u α a b m c Q I rx ry ra rb me e q
theorem ok_cmp {c : Cm} {a b : E} (ha : OkE G n a) (hb : OkE G n b) : OkE G n (.cmp c a b) := by
  intro N sc e X W C h
  cases e with
  | Compare l ops rs pos =>
    rcases ops with _ | ⟨op, _ | ⟨op', ops⟩⟩ <;> rcases rs with _ | ⟨r, _ | ⟨r', rs⟩⟩ <;> simp only [chkE, Bool.false_eq_true, Bool.and_eq_true] at h
    obtain ⟨⟨h1, h2⟩, h3⟩ := h
    have e := cmB_ok h1
    subst e
    refine PE.weak (pe_cmpR (Cmp.op (cmp_all C.room C.K c)) (ha N sc _ X W C h2) (hb N sc _ X W C h3) (behind_plain (chk_plain h3))) fun σ H Q ⟨α, ρ, m, re, me, q⟩ => ⟨α, ρ, m, re, me, ?_⟩
    simp only [evE] at q
    refine Post.bnd q fun v m1 x H1 α1 st rv me1 q1 => ⟨α1, ρ, m1, re.ext st.ext st.le, me1, Post.bnd q1 fun w m2 y H2 α2 st2 rw' me2 q2 => ?_⟩
    obtain ⟨b, e, q3⟩ := Post.lftb q2 me2
    exact ⟨α2, v, w, m2, b, rv.ext st2.ext st2.le, rw', me2, e, q3⟩
  | _ => simp only [chkE, Bool.false_eq_true] at h
theorem okT_cmp {c : Cm} {a b : E} (ha : OkE G n a) (hb : OkE G n b) : OkT G n (.cmp c a b) := by
  intro N sc e X W C h
  cases e with
  | Compare l ops rs pos =>
    rcases ops with _ | ⟨op, _ | ⟨op', ops⟩⟩ <;> rcases rs with _ | ⟨r, _ | ⟨r', rs⟩⟩ <;> simp only [chkE, Bool.false_eq_true, Bool.and_eq_true] at h
    obtain ⟨⟨h1, h2⟩, h3⟩ := h
    have e := cmB_ok h1
    subst e
    refine PT.weak (pt_cmpR (Cmp.op (cmp_all C.room C.K c)) (ha N sc _ X W C h2) (hb N sc _ X W C h3) (behind_plain (chk_plain h3))) fun σ H Q ⟨α, ρ, m, re, me, q⟩ => ⟨α, ρ, m, re, me, ?_⟩
    simp only [evE] at q
    have q := q
    rw [show ∀ (r : R PV), bnd (bnd r fun x m => bnd (evE G.pr.con (run G.pr n) b ρ m) fun y m => lft (Option.map PV.bl (cmpop c m x y)) m) (fun v m => tstB m v) =
      bnd r fun x m => bnd (evE G.pr.con (run G.pr n) b ρ m) fun y m => bnd (lft (Option.map PV.bl (cmpop c m x y)) m) (fun v m => tstB m v) from fun r => by
        cases r <;> first | rfl | (simp only [bnd_ok]; generalize evE G.pr.con (run G.pr n) b ρ _ = z; cases z <;> rfl)] at q
    refine Post.bnd q fun v m1 x H1 α1 st rv me1 q1 => ⟨α1, ρ, m1, re.ext st.ext st.le, me1, Post.bnd q1 fun w m2 y H2 α2 st2 rw' me2 q2 => ?_⟩
    cases e : cmpop c m2 v w with
    | none => rw [e] at q2; exact q2.elim
    | some b =>
      rw [e] at q2
      exact ⟨α2, v, w, m2, b, rv.ext st2.ext st2.le, rw', me2, e, b, rfl, Post.ok (v := b) q2 rfl me2⟩
  | _ => simp only [chkE, Bool.false_eq_true] at h
theorem ok_cmp2 {c d : Cm} {a b z : E} (ha : OkE G n a) (hb : OkE G n b) (hz : OkE G n z) : OkE G n (.cmp2 c d a b z) := by
  intro N sc e X W C h
  cases e with
  | Compare l ops rs pos =>
    rcases ops with _ | ⟨op, _ | ⟨op', _ | ⟨op2, ops⟩⟩⟩ <;> rcases rs with _ | ⟨r, _ | ⟨r', _ | ⟨r2, rs⟩⟩⟩ <;> simp only [chkE, Bool.false_eq_true, Bool.and_eq_true] at h
    obtain ⟨⟨⟨⟨h1, h1'⟩, h2⟩, h3⟩, h4⟩ := h
    have e := cmB_ok h1
    have e' := cmB_ok h1'
    subst e e'
    refine PE.weak (pe_chain (Cmp.op (cmp_all C.room C.K c)) (Cmp.op (cmp_all C.room C.K d)) (ha N sc _ X W C h2) (hb N sc _ X W C h3) (hz N sc _ X W C h4) (lastMarks_plain (chk_plain h4))) fun σ H Q ⟨α, ρ, m, re, me, q⟩ => ⟨α, ρ, m, re, me, ?_⟩
    simp only [evE] at q
    refine Post.bnd q fun v m1 x H1 α1 st rv me1 q1 => ⟨α1, ρ, m1, re.ext st.ext st.le, me1, Post.bnd q1 fun w m2 y H2 α2 st2 rw' me2 q2 => ?_⟩
    split at q2
    · rename_i e
      refine ⟨α2, v, w, m2, true, rv.ext st2.ext st2.le, rw', me2, e, true, rfl, ?_⟩
      rw [if_pos rfl]
      refine ⟨α2, ρ, m2, (re.ext st.ext st.le).ext st2.ext st2.le, me2, Post.bnd q2 fun u m3 y3 H3 α3 st3 ru me3 q3 => ?_⟩
      obtain ⟨b, e3, q4⟩ := Post.lftb q3 me3
      exact ⟨α3, w, u, m3, b, rw'.ext st3.ext st3.le, ru, me3, e3, q4⟩
    · rename_i e
      refine ⟨α2, v, w, m2, false, rv.ext st2.ext st2.le, rw', me2, e, false, rfl, ?_⟩
      rw [if_neg Bool.false_ne_true]
      exact Post.ok (v := PV.bl false) q2 (.d (.bl false)) me2
    · exact q2.elim
  | _ => simp only [chkE, Bool.false_eq_true] at h
/-- a test by its value -/
theorem okT_of {c : E} (h : OkE G n c) (hp : ∀ (N : List Str) (sc : Scope) (e : Expr) (env : PySem.Env), chkE G.nms N c sc e = true → ∀ whole, isTrue e env whole = (do let v ← whole; standAt e.pos; holding [v] (truthy v))) : OkT G n c := by
  intro N sc e X W C hc
  refine PT.weak (pt_truth (h N sc e X W C hc) (hp N sc e _ hc)) fun σ H Q ⟨α, ρ, m, re, me, q⟩ => ⟨α, ρ, m, re, me, Post.bnd q fun v m1 x H1 α1 st rv me1 q1 => ?_⟩
  unfold tstB at q1
  cases e : truth m1 v with
  | none => rw [e] at q1; exact q1.elim
  | some b =>
    rw [e] at q1
    rw [C.K]
    exact ⟨b, truth_ok rv me1 e, Post.ok (v := b) q1 rfl me1⟩
/-- a chain as a test -/
theorem okT_cmp2 {c d : Cm} {a b z : E} (ha : OkE G n a) (hb : OkE G n b) (hz : OkE G n z) : OkT G n (.cmp2 c d a b z) := by
  intro N sc e X W C h
  cases e with
  | Compare l ops rs pos =>
    rcases ops with _ | ⟨op, _ | ⟨op', _ | ⟨op2, ops⟩⟩⟩ <;> rcases rs with _ | ⟨r, _ | ⟨r', _ | ⟨r2, rs⟩⟩⟩ <;> simp only [chkE, Bool.false_eq_true, Bool.and_eq_true] at h
    obtain ⟨⟨⟨⟨h1, h1'⟩, h2⟩, h3⟩, h4⟩ := h
    have e := cmB_ok h1
    have e' := cmB_ok h1'
    subst e e'
    refine PT.weak (pt_chain (Cmp.op (cmp_all C.room C.K c)) (Cmp.op (cmp_all C.room C.K d)) (ha N sc _ X W C h2) (hb N sc _ X W C h3) (hz N sc _ X W C h4) (lastMarks_plain (chk_plain h4))) fun σ H Q ⟨α, ρ, m, re, me, q⟩ => ⟨α, ρ, m, re, me, ?_⟩
    simp only [evE] at q
    have q := q
    rw [show ∀ (r : R PV) (g : PV → PV → Mem → R PV), bnd (bnd r fun x m => bnd (evE G.pr.con (run G.pr n) b ρ m) fun y m => g x y m) (fun v m => tstB m v) =
      bnd r fun x m => bnd (evE G.pr.con (run G.pr n) b ρ m) fun y m => bnd (g x y m) (fun v m => tstB m v) from fun r g => by
        cases r <;> first | rfl | (simp only [bnd_ok]; generalize evE G.pr.con (run G.pr n) b ρ _ = z; cases z <;> rfl)] at q
    refine Post.bnd q fun v m1 x H1 α1 st rv me1 q1 => ⟨α1, ρ, m1, re.ext st.ext st.le, me1, Post.bnd q1 fun w m2 y H2 α2 st2 rw' me2 q2 => ?_⟩
    cases e : cmpop c m2 v w with
    | none => rw [e] at q2; exact q2.elim
    | some k =>
      rw [e] at q2
      refine ⟨α2, v, w, m2, k, rv.ext st2.ext st2.le, rw', me2, e, k, rfl, ?_⟩
      cases k with
      | true =>
        rw [if_pos rfl]
        have q2 : Post G (fun _ _ (b : Bool) (b' : Bool) => b = b') (bnd (bnd (evE G.pr.con (run G.pr n) z ρ m2) fun z m => lft (Option.map PV.bl (cmpop d m w z)) m) fun v m => tstB m v) H2 α2 Q (wE W σ) := q2
        rw [show ∀ (r : R PV), bnd (bnd r fun z m => lft (Option.map PV.bl (cmpop d m w z)) m) (fun v m => tstB m v) = bnd r fun z m => bnd (lft (Option.map PV.bl (cmpop d m w z)) m) (fun v m => tstB m v) from fun r => by cases r <;> rfl] at q2
        refine ⟨α2, ρ, m2, (re.ext st.ext st.le).ext st2.ext st2.le, me2, Post.bnd q2 fun u m3 y3 H3 α3 st3 ru me3 q3 => ?_⟩
        cases e3 : cmpop d m3 w u with
        | none => rw [e3] at q3; exact q3.elim
        | some b =>
          rw [e3] at q3
          exact ⟨α3, w, u, m3, b, rw'.ext st3.ext st3.le, ru, me3, e3, b, rfl, Post.ok (v := b) q3 rfl me3⟩
      | false =>
        rw [if_neg Bool.false_ne_true]
        exact ⟨false, rfl, Post.ok (v := false) q2 rfl me2⟩
  | _ => simp only [chkE, Bool.false_eq_true] at h
theorem okT_not {a : E} (ha : OkT G n a) : OkT G n (.not a) := by
  intro N sc e X W C h
  cases e with
  | UnaryOp op e pos =>
    cases op <;> simp only [chkE, Bool.false_eq_true] at h
    refine PT.weak (pt_not (ha N sc _ X W C h)) fun σ H Q ⟨α, ρ, m, re, me, q⟩ => ⟨α, ρ, m, re, me, ?_⟩
    simp only [evE] at q
    generalize evE G.pr.con (run G.pr n) a ρ m = r at q ⊢
    cases r with
    | no => exact q
    | exc x m => exact q
    | ok v m1 =>
      simp only [bnd_ok] at q ⊢
      cases e : truth m1 v with
      | none => rw [e] at q; exact q.elim
      | some b =>
        rw [e] at q
        unfold tstB
        rw [e]
        exact fun x H' α' st rv me' => q (!x) H' α' st (by rw [rv]) me'
  | _ => simp only [chkE, Bool.false_eq_true] at h
/-- and, or: tests whatever their 'whole' is -/
def OkW (G : Glo) (n : Nat) (c : E) : Prop := ∀ (N : List Str) (sc : Scope) (op : BoolOp) (vs : List Expr) (pos : Pos) (X : Cx) (W : WX), CG G n N sc W X → chkE G.nms N c sc (.BoolOp op vs pos) = true → PW X (.BoolOp op vs pos) (tT G n W c)
theorem PW.weak {X : Cx} {e : Expr} {t t' : TT} (h : PW X e t) (k : ∀ σ H Q, t' σ H Q → t σ H Q) : PW X e t' := ⟨fun w pins s σ H Q I q => h.run w pins s σ H Q I (k _ _ _ q)⟩
/-- a part that is no and, or -/
theorem pw_last {X : Cx} {op : BoolOp} {y : Expr} {pos : Pos} {t : TT} (h : PT X y t) : PW X (.BoolOp op [y] pos) t := by
  cases op with
  | And => exact pw_and1 h
  | Or => exact pw_or1 h
theorem okW_and {a b : E} (ha : OkT G n a) (hb : OkT G n b) (hw : OkW G n b) : OkW G n (.and a b) := by
  intro N sc op vs pos X W C h
  cases op with
  | Or => simp only [chkE, Bool.false_eq_true] at h
  | And =>
    rcases vs with _ | ⟨x, _ | ⟨y, r⟩⟩
    · simp only [chkE, Bool.false_eq_true] at h
    · simp only [chkE, Bool.false_eq_true] at h
    · simp only [chkE, Bool.and_eq_true] at h
      obtain ⟨h1, h2⟩ := h
      have pa := ha N sc _ X W C h1
      have pb : PW X (.BoolOp .And (y :: r) pos) (tT G n W b) := by
        cases r with
        | nil => exact pw_last (hb N sc _ X W C h2)
        | cons z r => exact hw N sc _ _ _ X W C h2
      refine PW.weak (pw_and pa pb) fun σ H Q ⟨α, ρ, m, re, me, q⟩ => ⟨α, ρ, m, re, me, ?_⟩
      simp only [evE] at q
      generalize evE G.pr.con (run G.pr n) a ρ m = r at q ⊢
      cases r with
      | no => exact q
      | exc x m => exact q
      | ok v m1 =>
        simp only [bnd_ok] at q ⊢
        split at q
        · intro x H1 α1 st rv me1
          subst rv
          rw [if_pos rfl]
          exact ⟨α1, ρ, m1, re.ext st.ext st.le, me1, q.base st⟩
        · intro x H1 α1 st rv me1
          subst rv
          rw [if_neg Bool.false_ne_true]
          exact q false H1 α1 st rfl me1
        · exact q.elim
theorem okW_or {a b : E} (ha : OkT G n a) (hb : OkT G n b) (hw : OkW G n b) : OkW G n (.or a b) := by
  intro N sc op vs pos X W C h
  cases op with
  | And => simp only [chkE, Bool.false_eq_true] at h
  | Or =>
    rcases vs with _ | ⟨x, _ | ⟨y, r⟩⟩
    · simp only [chkE, Bool.false_eq_true] at h
    · simp only [chkE, Bool.false_eq_true] at h
    · simp only [chkE, Bool.and_eq_true] at h
      obtain ⟨h1, h2⟩ := h
      have pa := ha N sc _ X W C h1
      have pb : PW X (.BoolOp .Or (y :: r) pos) (tT G n W b) := by
        cases r with
        | nil => exact pw_last (hb N sc _ X W C h2)
        | cons z r => exact hw N sc _ _ _ X W C h2
      refine PW.weak (pw_or pa pb) fun σ H Q ⟨α, ρ, m, re, me, q⟩ => ⟨α, ρ, m, re, me, ?_⟩
      simp only [evE] at q
      generalize evE G.pr.con (run G.pr n) a ρ m = r at q ⊢
      cases r with
      | no => exact q
      | exc x m => exact q
      | ok v m1 =>
        simp only [bnd_ok] at q ⊢
        split at q
        · intro x H1 α1 st rv me1
          subst rv
          rw [if_pos rfl]
          exact q true H1 α1 st rfl me1
        · intro x H1 α1 st rv me1
          subst rv
          rw [if_neg Bool.false_ne_true]
          exact ⟨α1, ρ, m1, re.ext st.ext st.le, me1, q.base st⟩
        · exact q.elim
theorem okT_w {c : E} (h : OkW G n c) (hb : ∀ (N : List Str) (sc : Scope) (e : Expr), chkE G.nms N c sc e = true → ∃ op vs pos, e = .BoolOp op vs pos) : OkT G n c := by
  intro N sc e X W C hc
  obtain ⟨op, vs, pos, rfl⟩ := hb N sc e hc
  exact (h N sc op vs pos X W C hc).pt
theorem okW_no {c : E} (h : ∀ (N : List Str) (sc : Scope) (op : BoolOp) (vs : List Expr) (pos : Pos), chkE G.nms N c sc (.BoolOp op vs pos) = true → False) : OkW G n c := fun N sc op vs pos X W C hc => (h N sc op vs pos hc).elim
theorem ok_ite {c a b : E} (hc : OkT G n c) (ha : OkE G n a) (hb : OkE G n b) : OkE G n (.ite c a b) := by
  intro N sc e X W C h
  cases e <;> simp only [chkE, Bool.false_eq_true, Bool.and_eq_true] at h
  obtain ⟨⟨h1, h2⟩, h3⟩ := h
  refine PE.weak (pe_ifExp (hc N sc _ X W C h1) (ha N sc _ X W C h2) (hb N sc _ X W C h3)) fun σ H Q ⟨α, ρ, m, re, me, q⟩ => ⟨α, ρ, m, re, me, ?_⟩
  simp only [evE] at q
  generalize evE G.pr.con (run G.pr n) c ρ m = r at q ⊢
  cases r with
  | no => exact q
  | exc x m => exact q
  | ok v m1 =>
    simp only [bnd_ok] at q ⊢
    unfold tstB
    split at q
    · rename_i e
      rw [e]
      intro x H1 α1 st rv me1
      subst rv
      rw [if_pos rfl]
      exact ⟨α1, ρ, m1, re.ext st.ext st.le, me1, q.base st⟩
    · rename_i e
      rw [e]
      intro x H1 α1 st rv me1
      subst rv
      rw [if_neg Bool.false_ne_true]
      exact ⟨α1, ρ, m1, re.ext st.ext st.le, me1, q.base st⟩
    · exact q.elim
/-! ### lists of expressions -/
theorem okL_nil : OkL G n .nil := by
  intro N sc es X W C h
  cases es with
  | nil => exact PA.weak pa_nil fun σ H Q ⟨α, ρ, m, re, me, q⟩ => Post.ok (v := PV.tup []) (rel := fun H α xs r => RpAll G H α xs (unl r)) q .nil me
  | cons e es => simp only [chkL, Bool.false_eq_true] at h
theorem okL_cons {a l : E} (ha : OkE G n a) (hl : OkL G n l) : OkL G n (.cons a l) := by
  intro N sc es X W C h
  cases es with
  | nil => simp only [chkL, Bool.false_eq_true] at h
  | cons e es =>
    simp only [chkL, Bool.and_eq_true] at h
    obtain ⟨h1, h2⟩ := h
    refine PA.weak (pa_cons (ha N sc _ X W C h1) (hl N sc _ X W C h2) (starEach_plain (chk_plain h1))) fun σ H Q ⟨α, ρ, m, re, me, q⟩ => ⟨α, ρ, m, re, me, ?_⟩
    simp only [evE] at q
    refine Post.bnd q fun v m1 x H1 α1 st rv me1 q1 => ⟨α1, ρ, m1, re.ext st.ext st.le, me1, Post.bnd q1 fun w m2 xs H2 α2 st2 rw' me2 q2 => ?_⟩
    exact Post.ok (v := PV.tup (v :: unl w)) (rel := fun H α xs r => RpAll G H α xs (unl r)) q2 (.cons (rv.ext st2.ext st2.le) rw') me2
theorem okL_none {c : E} (h : ∀ (N : List Str) (sc : Scope) (es : List Expr), chkL G.nms N c sc es = true → False) : OkL G n c := fun N sc es X W C hc => (h N sc es hc).elim
theorem Post.len {β γ : Type} {rel : Hp → Al → β → γ → Prop} {r : R γ} {H : Hp} {α : Al} {Q : β → Hp → Prop} {E : EW} (h : Post G rel r H α Q E) : r ≠ .no := by
  rintro rfl; exact h
theorem small_size {k : Nat} (h : k ≤ 1000) : k ≤ sizeLine := by rw [sizeLine_eq]; omega
theorem ok_tup {l : E} (hl : OkL G n l) : OkE G n (.tup l) := by
  intro N sc e X W C h
  cases e <;> simp only [chkE, Bool.false_eq_true] at h
  refine PE.weak (pe_tup (hl N sc _ X W C h)) fun σ H Q ⟨α, ρ, m, re, me, q⟩ => ⟨α, ρ, m, re, me, ?_⟩
  simp only [evE] at q
  refine Post.bnd q fun v m1 xs H1 α1 st rv me1 q1 => ?_
  split at q1
  · rename_i hd
    simp only [Bool.and_eq_true, decide_eq_true_eq] at hd
    have hz : xs.length ≤ sizeLine := by rw [Paired.length rv]; exact small_size hd.2
    have f := RpAll.fz rv hd.1
    exact ⟨hz, fun p hp => q1 (.ref p) _ α1 (Stp.laid hp) (.d (.tup (SqT.of upd_same) hz (f.ext (Ext.new hp)))) (me1.upd hp)⟩
  · exact q1.elim
theorem ok_lst {mu : Bool} {l : E} (hl : OkL G n l) : OkE G n (.lst mu l) := by
  intro N sc e X W C h
  cases e <;> simp only [chkE, Bool.false_eq_true] at h
  refine PE.weak (PE.lk (pe_lst (hl N sc _ X W C h))) fun σ H Q ⟨α, ρ, m, re, me, q⟩ => ⟨α, ρ, m, re, me, ?_⟩
  simp only [evE] at q
  refine Post.bnd q fun v m1 xs H1 α1 st rv me1 q1 => ?_
  split at q1
  · rename_i hd
    have hz : xs.length ≤ sizeLine := by rw [Paired.length rv]; exact small_size hd
    exact ⟨hz, fun p hp => LK.mk q1 hp rv hz me1⟩
  · exact q1.elim
end
end Pv
namespace Pv
open PySem PySem.Spec PyProof.Rows L2
section
variable {G : Glo} {n : Nat}
/-! ### items, slices -/
theorem ok_ix {a b : E} (ha : OkE G n a) (hb : OkE G n b) : OkE G n (.ix a b) := by
  intro N sc e X W C h
  cases e <;> simp only [chkE, Bool.false_eq_true, Bool.and_eq_true] at h
  obtain ⟨h2, h3⟩ := h
  refine PE.weak (pe_ix ix_seq (ha N sc _ X W C h2) (hb N sc _ X W C h3) (plainIx (chk_plain h3))) fun σ H Q ⟨α, ρ, m, re, me, q⟩ => ⟨α, ρ, m, re, me, ?_⟩
  simp only [evE] at q
  exact Post.bnd q fun v m1 x H1 α1 st rv me1 q1 => ⟨α1, ρ, m1, re.ext st.ext st.le, me1, Post.bnd q1 fun w m2 y H2 α2 st2 rw' me2 q2 => item_ok C.K (rv.ext st2.ext st2.le) rw' me2 q2⟩
def partV : V → Option Int → Prop
  | .non, none => True
  | .int i, some j => i = j
  | _, _ => False
def tPartO (t : TE) : TO := fun σ H Q => t σ H fun x H1 => ∃ o, partV x o ∧ Q o H1
theorem po_any {X : Cx} {e : Expr} {te : TE} (h : PE X e te) : PO X (some e) (tPartO te) := by
  refine ⟨fun pins s σ H Q I hw => ?_⟩
  rw [evalPart_some]
  refine thn (h.run pins s σ H _ I hw) fun u s1 ⟨x, H1, I1, r1, o, p, q1⟩ => ?_
  cases x <;> cases o <;> try exact p.elim
  · cases r1
    exact ⟨none, H1, I1, .none, q1⟩
  · obtain ⟨t, rfl⟩ := r1
    subst p
    exact ⟨some _, H1, I1, .int _ t, q1⟩
theorem optI_part {H : Hp} {α : Al} {x : V} {v : PV} {o : Option Int} (r : Rp G H α x v) (e : optI v = some o) : partV x o := by
  unfold optI at e
  split at e
  · cases e; have := fz_non r; subst this; exact trivial
  · split at e
    · cases e; have := fz_int r; subst this; exact rfl
    · cases e
  · cases e
theorem okO {c : E} {N : List Str} {sc : Scope} {l : Option Expr} (h : (match c, l with
    | .k .non, none => true
    | lo, some l => chkE G.nms N lo sc l
    | _, _ => false) = true) (hc : OkE G n c) {X : Cx} {W : WX} (C : CG G n N sc W X) : PO X l (tPartO (tE G n W c)) := by
  split at h
  · refine ⟨fun pins s σ H Q I ⟨α, ρ, m, re, me, q⟩ => po_none.run pins s σ H Q I ?_⟩
    obtain ⟨o, p, q⟩ := Post.ok (v := PV.non) q (.d .non) me
    cases o with
    | none => exact q
    | some _ => exact p.elim
  · exact po_any (hc N sc _ X W C h)
  · cases h
theorem ok_sl {a b d : E} (ha : OkE G n a) (hb : OkE G n b) (hd : OkE G n d) : OkE G n (.sl a b d) := by
  intro N sc e X W C h
  cases e with
  | Subscript x y p =>
    cases y with
    | Slice l hi st p2 =>
      cases st with
      | some _ => simp only [chkE, Bool.false_eq_true] at h
      | none =>
        unfold chkE at h
        simp only [Bool.and_eq_true] at h
        obtain ⟨⟨h1, h2⟩, h3⟩ := h
        refine PE.weak (PE.lk (pe_slice sl_any (ha N sc _ X W C h1) (okO h2 hb C) (okO h3 hd C))) fun σ H Q ⟨α, ρ, m, re, me, q⟩ => ⟨α, ρ, m, re, me, ?_⟩
        simp only [evE] at q
        refine Post.bnd q fun v m1 x H1 α1 st1 rv me1 q1 => ⟨α1, ρ, m1, re.ext st1.ext st1.le, me1, Post.bnd q1 fun w m2 y H2 α2 st2 rw' me2 q2 => ?_⟩
        cases e1 : optI w with
        | none => rw [e1] at q2; exact q2.elim
        | some lo =>
          rw [e1] at q2
          have q2 := q2
          simp only [Option.isSome_some, if_true] at q2
          refine ⟨lo, optI_part rw' e1, α2, ρ, m2, (re.ext st1.ext st1.le).ext st2.ext st2.le, me2, Post.bnd q2 fun z m3 y3 H3 α3 st3 rz me3 q3 => ?_⟩
          cases e2 : optI z with
          | none =>
            have q3 := q3
            unfold slice at q3
            rw [e1, e2] at q3
            exact q3.elim
          | some hi => exact ⟨hi, optI_part rz e2, slice_ok C.K ((rv.ext st2.ext st2.le).ext st3.ext st3.le) me3 e1 e2 q3⟩
    | _ => simp only [chkE, Bool.false_eq_true] at h
  | _ => simp only [chkE, Bool.false_eq_true] at h
/-! ### calls -/
theorem run_no {P : Prg} : ∀ {k f : Nat} {l : List PV} {m : Mem}, run P k f l m ≠ .no → ∃ F, P.fns[f]? = some F ∧ l.length = F.np := by
  intro k f l m h
  cases k with
  | zero => exact absurd rfl h
  | succ k =>
    unfold run at h
    split at h
    · rename_i F e
      split at h
      · rename_i e2; exact ⟨F, e, e2⟩
      · exact absurd rfl h
    · exact absurd rfl h
theorem call_def {X : Cx} {N : List Str} {sc : Scope} {W : WX} (hF : FnsOk G n) (C : CG G n N sc W X) {pins : List (Addr × Obj)} {s : Shared} {σ : L2.St} {H : Hp} {α : Al} {m : Mem} {f : Nat} {a : Addr} {us : List Value} {vs : List V} {l : List PV} {Q : VK}
    (hf : G.fa[f]? = some a) (I : L2.Inv X pins σ H s) (r : Vals vs us) (ra : RpAll G H α vs l) (me : MemR G H α m) (q : Post G (Rp G) (run G.pr n f l m) H α Q (wE W σ)) : wpAny (model X.prog X.w) X.A (call (.ref a) us) (EP X pins σ Q) X.xe s := by
  obtain ⟨F, fd, ps, e1, e2, e3, e4, e5⟩ := hF f a hf
  obtain ⟨F', e6, e7⟩ := run_no q.len
  rw [e1] at e6
  cases e6
  have fo : FnOk X.prog X.w X.K X.mg X.base (L2.CX X.prog X.w) (n + 5) a fd ps (spF G n f F.np) := by rw [C.prog, C.w, C.K, C.mg, C.base]; exact e3
  refine run_fnSD (dvs := []) (ds := []) (E := fun σ => WE W σ) fo C.room (by rw [C.K]; exact e4) .nil (passAt C.tk σ) I r ?_
  rw [List.append_nil]
  exact ⟨by rw [Paired.length ra, e7], α, m, l, ra, me, q⟩
theorem callWith_def {X : Cx} {N : List Str} {sc : Scope} {W : WX} (hF : FnsOk G n) (C : CG G n N sc W X) {l : E} {es : List Expr} {pins : List (Addr × Obj)} {s : Shared} {σ : L2.St} {H : Hp} {f : Nat} {a : Addr} {Q : VK} {pos : Pos} (hl : OkL G n l) (hc : chkL G.nms N l sc es = true)
    (hf : G.fa[f]? = some a) (I : L2.Inv X pins σ H s) {α : Al} {ρ : Env} {m : Mem} (re : EnvR G H α ρ σ) (me : MemR G H α m) (q : Post G (Rp G) (bnd (evE G.pr.con (run G.pr n) l ρ m) fun r m => run G.pr n f (unl r) m) H α Q (wE W σ)) :
    wpAny (model X.prog X.w) X.A (callWith pos (.ref a) [] (backTo pos (starEach es X.env)) (backToKw pos (keywordEach [] X.env))) (EP X pins σ Q) X.xe s := by
  obtain ⟨F, fd, ps, e1, e2, e3, e4, hk⟩ := hF f a hf
  have hk : PySem.W.keepIn X.K (.ref a) = true := by rw [C.K]; exact hk
  have pa := hl N sc es X W C hc
  cases es with
  | nil =>
    cases l <;> simp only [chkL, Bool.false_eq_true] at hc
    exact PySem.W.callWith_K0 I.kIn hk (call_def (vs := []) (l := []) hF C hf I .nil .nil me q)
  | cons e es =>
    have hp := chkL_plain hc
    refine PySem.W.callWith_K (h₀ := X.base) I.ok.mod.kin hk (thn (pa.run pos pins s σ H (fun xs H1 => ∃ α m l, RpAll G H1 α xs l ∧ MemR G H1 α m ∧ Post G (Rp G) (run G.pr n f l m) H1 α Q (wE W σ)) I ⟨α, ρ, m, re, me, ?_⟩) fun us s1 ⟨vs, H1, I1, r, α1, m1, l1, ra, me1, q1⟩ => ⟨I1.kIn, call_def hF C hf I1 r ra me1 q1⟩) (starEach_plain (hp e (by simp))) (back_star fun x hx => hp x (by simp [hx]))
    exact Post.bnd q fun v m1 xs H1 α1 st rv me1 q1 => ⟨α1, m1, unl v, rv, me1, q1⟩
theorem ok_call (hG : GOk G) (hF : FnsOk G n) {f : Nat} {l : E} (hl : OkL G n l) : OkE G n (.call f l) := by
  intro N sc e X W C h
  cases e with
  | Call fe es kw pos =>
    cases fe with
    | Name x p =>
      cases kw with
      | cons _ _ => simp only [chkE, Bool.false_eq_true] at h
      | nil =>
        simp only [chkE, Bool.and_eq_true, decide_eq_true_eq] at h
        obtain ⟨⟨h1, h2⟩, h3⟩ := h
        obtain ⟨g1, g2⟩ := gl_ok C h2
        obtain ⟨a, e1, e2, e3⟩ := hG.fn _ _ (by simpa [Glo.nms] using h1)
        refine ⟨fun pins s σ H Q I ⟨α, ρ, m, re, me, q⟩ => ?_⟩
        refine wpAny_Call_Name_kw (ld_glob I g1 (by rw [C.mg]; exact e2) ?_ g2)
        simp only [evE] at q
        exact callWith_def hF C hl h3 e1 I re me q
    | _ => simp only [chkE, Bool.false_eq_true] at h
  | _ => simp only [chkE, Bool.false_eq_true] at h
theorem ok_callv (hF : FnsOk G n) {f l : E} (hf : OkE G n f) (hl : OkL G n l) : OkE G n (.callv f l) := by
  intro N sc e X W C h
  cases e with
  | Call fe es kw pos =>
    cases fe with
    | Name x p =>
      cases kw with
      | cons _ _ => simp only [chkE, Bool.false_eq_true] at h
      | nil =>
        simp only [chkE, Bool.and_eq_true] at h
        obtain ⟨h1, h3⟩ := h
        refine ⟨fun pins s σ H Q I ⟨α, ρ, m, re, me, q⟩ => ?_⟩
        refine wpAny_Call_Name_kw (thn ((hf N sc _ X W C h1).run pins s σ H (fun x H1 => ∃ α i a m, x = .ref a ∧ G.fa[i]? = some a ∧ EnvR G H1 α ρ σ ∧ MemR G H1 α m ∧ Post G (Rp G) (bnd (evE G.pr.con (run G.pr n) l ρ m) fun r m => run G.pr n i (unl r) m) H1 α Q (wE W σ)) I ⟨α, ρ, m, re, me, ?_⟩) fun u s1 ⟨v, H1, I1, r1, α1, i, a, m1, ev, e1, re1, me1, q1⟩ => ?_)
        · simp only [evE] at q
          refine Post.bnd q fun v m1 x H1 α1 st rv me1 q1 => ?_
          split at q1
          · rename_i i
            cases rv with
            | d h => cases h
            | fn h => exact ⟨α1, i, _, m1, rfl, h, re.ext st.ext st.le, me1, q1⟩
          · exact q1.elim
        · subst ev
          cases r1
          exact callWith_def hF C hl h3 e1 I1 re1 me1 q1
    | _ => simp only [chkE, Bool.false_eq_true] at h
  | _ => simp only [chkE, Bool.false_eq_true] at h
/-! ### sorted(set(a tuple of ints)) -/
theorem insU_mem (x : Int) : ∀ (l : List Int) (k : Int), k ∈ insU x l ↔ k = x ∨ k ∈ l
  | [], k => by simp [insU]
  | y :: l, k => by
    unfold insU
    split
    · simp
    · split
      · rename_i e; subst e; simp
      · simp only [List.mem_cons, insU_mem x l k]
        constructor
        · rintro (h | h | h)
          · exact .inr (.inl h)
          · exact .inl h
          · exact .inr (.inr h)
        · rintro (h | h | h)
          · exact .inr (.inl h)
          · exact .inl h
          · exact .inr (.inr h)
theorem insU_up (x : Int) : ∀ (l : List Int), l.Pairwise (· < ·) → (insU x l).Pairwise (· < ·)
  | [], _ => by simp [insU]
  | y :: l, h => by
    obtain ⟨h1, h2⟩ := List.pairwise_cons.mp h
    unfold insU
    split
    · rename_i hx
      exact List.pairwise_cons.mpr ⟨fun k hk => by
        rcases List.mem_cons.mp hk with rfl | hk
        · exact hx
        · have := h1 k hk; omega, h⟩
    · split
      · exact h
      · refine List.pairwise_cons.mpr ⟨fun k hk => ?_, insU_up x l h2⟩
        rcases (insU_mem x l k).mp hk with rfl | hk
        · omega
        · exact h1 k hk
theorem sortU_mem : ∀ (l : List Int) (k : Int), k ∈ sortU l ↔ k ∈ l
  | [], k => by simp [sortU]
  | x :: l, k => by unfold sortU; rw [insU_mem, sortU_mem l, List.mem_cons]
theorem sortU_up : ∀ (l : List Int), (sortU l).Pairwise (· < ·)
  | [] => by simp [sortU]
  | x :: l => by unfold sortU; exact insU_up x _ (sortU_up l)
theorem up_uniq : ∀ (a b : List Int), a.Pairwise (· < ·) → b.Pairwise (· < ·) → (∀ k, k ∈ a ↔ k ∈ b) → a = b
  | [], [], _, _, _ => rfl
  | [], y :: b, _, _, h => absurd ((h y).mpr (by simp)) (by simp)
  | x :: a, [], _, _, h => absurd ((h x).mp (by simp)) (by simp)
  | x :: a, y :: b, ha, hb, h => by
    obtain ⟨a1, a2⟩ := List.pairwise_cons.mp ha
    obtain ⟨b1, b2⟩ := List.pairwise_cons.mp hb
    have e : x = y := by
      rcases List.mem_cons.mp ((h x).mp (by simp)) with e | hx
      · exact e
      · rcases List.mem_cons.mp ((h y).mpr (by simp)) with e | hy
        · exact e.symm
        · have h1 := a1 y hy
          have h2 := b1 x hx
          omega
    subst e
    rw [up_uniq a b a2 b2 fun k => ?_]
    constructor
    · intro hk
      rcases List.mem_cons.mp ((h k).mp (by simp [hk])) with e | q
      · have := a1 k hk; omega
      · exact q
    · intro hk
      rcases List.mem_cons.mp ((h k).mpr (by simp [hk])) with e | q
      · have := b1 k hk; omega
      · exact q
def tSetT (K : PySem.W.Frag) (w : World) (ta : TA) : TE := fun σ H Q => ta σ H fun vs H1 => ∃ (a : Addr) (ns : List Int), vs = [V.ref a] ∧ SqT K H1 a (ns.map V.int) ∧ ns.length < 64 ∧ ∀ (p : Addr) (c : Nat), H1 p = none → c ≤ ns.length → Q (.ref p) (L2.upd H1 p (SetO w p (fun j => decide (j ∈ ns)) c))
theorem pe_setT {X : Cx} {e : Expr} {ta : TA} {p pos : Pos} (hc : X.calm = true) (hg : Gl X "set") (hm : X.mg "set" = none) (ha : PA X [e] ta) (hs : starEach [e] X.env = (false, eval e X.env) :: starEach [] X.env) : PE X (.Call (.Name "set" p) [e] [] pos) (tSetT X.K X.w ta) := by
  refine ⟨fun pins s0 σ Ho Q Io hw => ?_⟩
  refine wpAny_Call_Name_kw (ld_blt Io hg hm PyProof.Rows.boot_set (PyProof.Rows.callWith_type1 (thn (ha.run pos pins s0 σ Ho _ Io hw) fun us sA ⟨vs, HA, IA, rA, a, ns, ev, hq, hl, hQ⟩ => ?_) hs rfl))
  subst ev
  cases rA with
  | cons r1 r2 =>
    cases r2
    cases r1
    obtain ⟨vals, rv, pt, _⟩ := IA.tuple hq
    have hints : IntsAre vals.toArray.toList ns := ints_of_vals rv
    refine call_set_tupI ns (IA.ok.hd hc) (items := vals.toArray) pt hints (by unfold scanBound; omega) fun h' tk c R1 hcn kp => ?_
    exact ⟨.ref sA.heap.objs.size, _, IA.laid (t' := tk) kp (Nat.le_refl _) (setO_new R1), rfl, hQ _ c (IA.hok.fresh (Nat.le_refl _)) hcn⟩
theorem ok_sortset (hG : GOk G) {mu : Bool} {l : E} (hl : OkL G n l) {N : List Str} {sc : Scope} {e : Expr} {p1 p2 p3 p4 : Pos} {X : Cx} {W : WX} (C : CG G n N sc W X) (h1 : bltB G.nms sc (Str.ofString "sorted") = true) (h2 : bltB G.nms sc (Str.ofString "set") = true) (h3 : chkL G.nms N l sc [e] = true) :
    PE X (.Call (.Name (Str.ofString "sorted") p1) [.Call (.Name (Str.ofString "set") p2) [e] [] p3] [] p4) (tE G n W (.bf mu .sortset l)) := by
  obtain ⟨g1, g2, g3, g4⟩ := blt_ok hG C h1
  obtain ⟨k1, k2, k3, k4⟩ := blt_ok hG C h2
  have hp := chkL_plain h3
  refine PE.weak (PE.lk (pe_callB (cr_sortedSet C.calm) g1 g2 (by decide +kernel) (pa_cons (pe_setT C.calm k1 k2 (hl N sc _ X W C h3) (starEach_plain (hp e (by simp)))) pa_nil rfl) g3 g4 rfl rfl)) fun σ H Q ⟨α, ρ, m, re, me, q⟩ => ⟨α, ρ, m, re, me, ?_⟩
  simp only [evE] at q
  refine Post.bnd q fun v m1 xs H1 α1 st rv me1 q1 => ?_
  generalize unl v = ls at rv q1
  obtain ⟨l', rfl⟩ : ∃ l', ls = [.tup l'] := by
    rcases ls with _ | ⟨x0, _ | ⟨y0, r0⟩⟩
    · exact q1.elim
    · cases x0 <;> first | exact ⟨_, rfl⟩ | exact q1.elim
    · cases x0 <;> exact q1.elim
  obtain ⟨x, rfl, rx⟩ := one_arg rv
  have q1 : Post G (Rp G) (match intsOf l' with
    | some is => if is.length < 64 then mkl mu ((sortU is).map .int) m1 else .no
    | none => .no) H1 α1 Q (wE W σ) := q1
  cases e3 : intsOf l' with
  | none => rw [e3] at q1; exact q1.elim
  | some is =>
    rw [e3] at q1
    cases rx with
    | d f =>
      cases f with
      | tup z1 z2 z3 =>
        have e4 := ints_fz z3 e3
        subst e4
        by_cases hlt : is.length < 64
        · have q1 := q1
          simp only [if_pos hlt] at q1
          rw [C.K]
          refine ⟨_, is, rfl, z1, hlt, fun p c hp hc => ⟨p, _, c, rfl, upd_same, by omega, fun ns p2 hup hmem hlen hp2 => ?_⟩⟩
          have e5 : ns = sortU is := up_uniq _ _ hup (sortU_up is) fun k => by rw [hmem, sortU_mem]; simp
          subst e5
          refine LK.mk (q1.base (Stp.laid hp)) hp2 ?_ ?_ (me1.upd hp)
          · have key : ∀ ks : List Int, RpAll G (L2.upd H1 p (SetO X.w p (fun j => decide (j ∈ is)) c)) α1 (ks.map V.int) (ks.map PV.int) := by
              intro ks
              induction ks with
              | nil => exact .nil
              | cons k ks ih => exact .cons (.d (.int k)) ih
            exact key _
          · rw [List.length_map, hlen]; exact small_size (by omega)
        · simp only [if_neg hlt] at q1
          exact q1.elim
theorem bf_boot {b : Bf} {x : Str} {f : Value} (h : bfId b = some (x, f)) : bootBuiltins x = some f := by
  cases b <;> first | (cases h; decide +kernel) | cases h
theorem bf_kind {b : Bf} {x : Str} {f : Value} (h : bfId b = some (x, f)) : (∃ id, f = .builtin id) ∨ ∃ T, f = .type T := by
  cases b <;> first | (cases h; exact .inl ⟨_, rfl⟩) | (cases h; exact .inr ⟨_, rfl⟩) | cases h
theorem ok_bf (hG : GOk G) {mu : Bool} {b : Bf} {l : E} (hl : OkL G n l) : OkE G n (.bf mu b l) := by
  intro N sc e X W C h
  cases e with
  | Call fe es kw pos =>
    cases fe with
    | Name x p =>
      cases kw with
      | cons _ _ => simp only [chkE, Bool.false_eq_true] at h
      | nil =>
        cases es with
        | nil => simp only [chkE, Bool.false_eq_true] at h
        | cons e es =>
          simp only [chkE] at h
          cases hb : bfId b with
          | none =>
            rw [hb] at h
            cases e <;> try (cases h; done)
            rename_i f2 es2 kw2 pos2
            cases f2 <;> try (cases h; done)
            rcases es2 with _ | ⟨e2, _ | _⟩ <;> try (cases h; done)
            cases kw2 <;> try (cases h; done)
            cases b <;> try (cases h; done)
            cases es <;> try (cases h; done)
            simp only [Bool.and_eq_true, decide_eq_true_eq] at h
            obtain ⟨⟨⟨⟨h1, h2⟩, h3⟩, h4⟩, h5⟩ := h
            subst h1 h3
            exact ok_sortset hG hl C h2 h4 h5
          | some p =>
            obtain ⟨y, f⟩ := p
            rw [hb] at h
            simp only [Bool.and_eq_true, decide_eq_true_eq] at h
            obtain ⟨⟨h1, h2⟩, h3⟩ := h
            subst h1
            obtain ⟨g1, g2, g3, g4⟩ := blt_ok hG C h2
            have hp := chkL_plain h3
            refine ⟨fun pins s σ H Q I ⟨α, ρ, m, re, me, q⟩ => ?_⟩
            refine wpAny_Call_Name_kw (ld_blt I g1 g2 (bf_boot hb) ?_ g3 g4)
            have key : wpAny (model X.prog X.w) X.A (spliced (backTo pos (starEach (e :: es) X.env))) (fun us s1 => wpAny (model X.prog X.w) X.A (call f us) (EP X pins σ Q) X.xe s1) X.xe s := by
              refine thn ((hl N sc _ X W C h3).run pos pins s σ H (fun xs H1 => ∃ α m l, RpAll G H1 α xs l ∧ MemR G H1 α m ∧ Post G (Rp G) (callB mu b l m) H1 α Q (wE W σ)) I ⟨α, ρ, m, re, me, ?_⟩) fun us s1 ⟨vs, H1, I1, r, α1, m1, l1, ra, me1, q1⟩ => call_bf C.K C.calm hb I1 r ra me1 q1
              simp only [evE] at q
              exact Post.bnd q fun v m1 xs H1 α1 st rv me1 q1 => ⟨α1, m1, unl v, rv, me1, q1⟩
            have e1 := starEach_plain (es := es) (env := X.env) (hp e (by simp))
            have e2 : (backTo pos (starEach es X.env)).any (·.1) = false := back_star fun x hx => hp x (by simp [hx])
            rcases bf_kind hb with ⟨id, rfl⟩ | ⟨T, rfl⟩
            · exact PyProof.Rows.callWith_builtin1 key e1 e2
            · exact PyProof.Rows.callWith_type1 key e1 e2
    | _ => simp only [chkE, Bool.false_eq_true] at h
  | _ => simp only [chkE, Bool.false_eq_true] at h
theorem ty_boot (t : Ty) : bootBuiltins (Str.ofString (tyN t)) = some (.type (tyN t)) := by
  cases t <;> decide +kernel
theorem ok_isi (hG : GOk G) {a : E} {t : Ty} (ha : OkE G n a) : OkE G n (.isi a t) := by
  intro N sc e X W C h
  cases e with
  | Call fe es kw pos =>
    cases fe with
    | Name x p =>
      cases kw with
      | cons _ _ => simp only [chkE, Bool.false_eq_true] at h
      | nil =>
        rcases es with _ | ⟨e, _ | ⟨f, _ | ⟨g, es⟩⟩⟩ <;> try (simp only [chkE, Bool.false_eq_true] at h; done)
        · cases f with
          | Name y py =>
            simp only [chkE, Bool.and_eq_true, decide_eq_true_eq] at h
            obtain ⟨⟨⟨⟨h1, h2⟩, h3⟩, h4⟩, h5⟩ := h
            subst h1
            have e4 : y = Str.ofString (tyN t) := beq_iff_eq.mp h4
            subst e4
            obtain ⟨g1, g2, g3, g4⟩ := blt_ok hG C h2
            obtain ⟨k1, k2, k3, k4⟩ := blt_ok hG C h5
            refine PE.weak (pe_callB call_isi g1 g2 (by decide +kernel) (pa_cons (ha N sc _ X W C h3) (pa_cons (pe_bltn (v := .ty (tyN t)) k1 k2 (ty_boot t) rfl k3 k4) pa_nil) (starEach_plain (chk_plain h3))) g3 g4 (starEach_plain (chk_plain h3)) rfl) fun σ H Q ⟨α, ρ, m, re, me, q⟩ => ⟨α, ρ, m, re, me, ?_⟩
            simp only [evE] at q
            exact Post.bnd q fun v m1 x H1 α1 st rv me1 q1 => isi_ok C.K rv me1 q1
          | _ => simp only [chkE, Bool.false_eq_true] at h
    | _ => simp only [chkE, Bool.false_eq_true] at h
  | _ => simp only [chkE, Bool.false_eq_true] at h
end
end Pv
namespace Pv
open PySem PySem.Spec PyProof.Rows L2
/-! ### targets -/
theorem wipe_set : ∀ {σ : L2.St} {i : Nat} {x : Option V} {vs : List Nat}, i ∈ vs → L2.wipe (σ.set i x) vs = L2.wipe σ vs := by
  intro σ i x vs
  induction vs with
  | nil => intro h; simp at h
  | cons v vs ih =>
    intro h
    by_cases hv : i ∈ vs
    · show (L2.wipe (σ.set i x) vs).set v none = (L2.wipe σ vs).set v none
      rw [ih hv]
    · have e : i = v := by
        rcases List.mem_cons.mp h with h | h
        · exact h
        · exact absurd h hv
      subst e
      show (L2.wipe (σ.set i x) vs).set i none = (L2.wipe σ vs).set i none
      have key : ∀ (ws : List Nat) (τ : L2.St), i ∉ ws → L2.wipe (τ.set i x) ws = (L2.wipe τ ws).set i x := by
        intro ws τ
        induction ws with
        | nil => intro _; rfl
        | cons w ws ihw =>
          intro hn
          show (L2.wipe (τ.set i x) ws).set w none = ((L2.wipe τ ws).set w none).set i x
          rw [ihw (fun q => hn (by simp [q])), List.set_comm _ _ (by rintro rfl; exact hn (by simp))]
      rw [key vs σ hv, List.set_set]
section
variable {G : Glo} {n : Nat}
def After (G : Glo) (H : Hp) (α : Al) (sl : List Nat) (ρ' : Env) (σ : L2.St) (Q : L2.St → Hp → Prop) : Prop := ∀ σ', EnvR G H α ρ' σ' → (∀ vs : List Nat, (∀ i ∈ sl, i ∈ vs) → L2.wipe σ' vs = L2.wipe σ vs) → Q σ' H
def tG (G : Glo) (t : Tg) : TG := fun x σ H Q => ∃ α ρ v ρ', EnvR G H α ρ σ ∧ Rp G H α x v ∧ asg t v ρ = some ρ' ∧ After G H α t.slots ρ' σ Q
def tGs (G : Glo) (t : Tg) : TGs := fun xs σ H Q => ∃ α ρ l ρ', EnvR G H α ρ σ ∧ RpAll G H α xs l ∧ asg t (.tup l) ρ = some ρ' ∧ After G H α t.slots ρ' σ Q
theorem PG.weak {X : Cx} {e : Expr} {t t' : TG} (h : PG X e t) (k : ∀ v σ H Q, t' v σ H Q → t v σ H Q) : PG X e t' := ⟨fun pins s σ H v u Q I r q => h.run pins s σ H v u Q I r (k _ _ _ _ q)⟩
theorem PGs.weak {X : Cx} {e : List Expr} {t t' : TGs} (h : PGs X e t) (k : ∀ v σ H Q, t' v σ H Q → t v σ H Q) : PGs X e t' := ⟨fun pins s σ H v u Q I r q => h.run pins s σ H v u Q I r (k _ _ _ _ q)⟩
theorem chkT_plain {N : List Str} {fc : Str → Bool} {sc : Scope} {t : Tg} {e : Expr} {es : List Expr} {env : PySem.Env} (h : chkT N fc sc t e = true) : assignEach (e :: es) env = (false, assign e env) :: assignEach es env := by
  cases t <;> cases e <;> first | rfl | (simp only [chkT, Bool.false_eq_true] at h)
theorem chkTs_len {N : List Str} {fc : Str → Bool} {sc : Scope} {env : PySem.Env} : ∀ {t : Tg} {es : List Expr}, chkTs N fc sc t es = true → (assignEach es env).length = es.length ∧ (assignEach es env).findIdx? (·.1) = none := by
  intro t es
  induction es generalizing t with
  | nil => intro _; exact ⟨rfl, rfl⟩
  | cons e es ih =>
    intro h
    cases t <;> simp only [chkTs, Bool.false_eq_true, Bool.and_eq_true] at h
    obtain ⟨h1, h2⟩ := ih h.2
    rw [chkT_plain h.1]
    refine ⟨by simp [h1], ?_⟩
    rw [List.findIdx?_cons]
    simp [h2]
theorem chkTs_vals {N : List Str} {fc : Str → Bool} {sc : Scope} : ∀ {t : Tg} {es : List Expr} {l : List PV} {ρ ρ' : Env}, chkTs N fc sc t es = true → asg t (.tup l) ρ = some ρ' → l.length = es.length := by
  intro t es
  induction es generalizing t with
  | nil =>
    intro l ρ ρ' h e
    cases t <;> simp only [chkTs, Bool.false_eq_true] at h
    cases l with
    | nil => rfl
    | cons a l => cases e
  | cons x es ih =>
    intro l ρ ρ' h e
    cases t <;> simp only [chkTs, Bool.false_eq_true, Bool.and_eq_true] at h
    cases l with
    | nil => cases e
    | cons a l =>
      obtain ⟨ρ1, e1, e2⟩ := Option.bind_eq_some_iff.mp e
      simp [ih h.2 e2]
theorem okG_both : ∀ (t : Tg) {N : List Str} {fc : Str → Bool} {sc : Scope} {X : Cx} {W : WX}, CG G n N sc W X → (∀ x, fc x = true → X.fn x = true) →
    (∀ {e : Expr}, chkT N fc sc t e = true → PG X e (tG G t)) ∧ (∀ {es : List Expr}, chkTs N fc sc t es = true → PGs X es (tGs G t)) := by
  intro t
  induction t with
  | v i =>
    intro N fc sc X W C hf
    refine ⟨fun {e} h => ?_, fun {es} h => by simp only [chkTs, Bool.false_eq_true] at h⟩
    cases e <;> simp only [chkT, Bool.false_eq_true, Bool.and_eq_true, Bool.or_eq_true, decide_eq_true_eq] at h
    obtain ⟨h1, h2⟩ := h
    have e1 : ∀ y, X.env.scope.names.lookup y = sc.names.lookup y := fun y => by rw [C.sc]
    refine PG.weak (pg_name (i := i) (by rw [C.nm]; exact C.nd) (by rw [C.nm]; exact h1) ?_ ?_) fun v σ H Q ⟨α, ρ, w, ρ', re, r, e, k⟩ => ?_
    · rcases h2 with h2 | h2
      · exact .inl ((e1 _).trans h2)
      · exact .inr ((e1 _).trans h2.1)
    · rcases h2 with h2 | h2
      · exact .inr ((e1 _).trans h2)
      · exact .inl (hf _ h2.2)
    · cases e
      exact k _ (re.set r i) fun vs hv => wipe_set (hv i (by simp [Tg.slots]))
  | t l ih =>
    intro N fc sc X W C hf
    refine ⟨fun {e} h => ?_, fun {es} h => by simp only [chkTs, Bool.false_eq_true] at h⟩
    cases e <;> simp only [chkT, Bool.false_eq_true] at h
    obtain ⟨h1, h2⟩ := chkTs_len (env := X.env) h
    refine PG.weak (pg_tup C.calm ((ih C hf).2 h) h1 h2) fun v σ H Q ⟨α, ρ, w, ρ', re, r, e, k⟩ => ?_
    cases w with
    | tup l =>
      cases r with
      | d f =>
        cases f with
        | tup z1 z2 z3 => exact ⟨_, _, rfl, by rw [C.K]; exact z1, by rw [z3.length]; exact chkTs_vals h e, α, ρ, l, ρ', re, z3.rp, e, k⟩
    | _ => cases e
  | nil =>
    intro N fc sc X W C hf
    refine ⟨fun {e} h => by simp only [chkT, Bool.false_eq_true] at h, fun {es} h => ?_⟩
    cases es <;> simp only [chkTs, Bool.false_eq_true] at h
    refine PGs.weak pgs_nil fun v σ H Q ⟨α, ρ, w, ρ', re, r, e, k⟩ => ?_
    cases w with
    | nil =>
      cases r
      cases e
      exact ⟨rfl, k _ re fun vs hv => rfl⟩
    | cons _ _ => cases e
  | cons a l iha ihl =>
    intro N fc sc X W C hf
    refine ⟨fun {e} h => by simp only [chkT, Bool.false_eq_true] at h, fun {es} h => ?_⟩
    cases es <;> simp only [chkTs, Bool.false_eq_true, Bool.and_eq_true] at h
    obtain ⟨h1, h2⟩ := h
    refine PGs.weak (pgs_cons ((iha C hf).1 h1) ((ihl C hf).2 h2) (by rw [chkT_plain h1]; rfl)) fun v σ H Q ⟨α, ρ, w, ρ', re, r, e, k⟩ => ?_
    cases w with
    | nil => cases e
    | cons w ws =>
      obtain ⟨ρ1, e1, e2⟩ := Option.bind_eq_some_iff.mp e
      cases r with
      | cons r1 r2 =>
        refine ⟨_, _, rfl, α, ρ, w, ρ1, re, r1, e1, fun σ1 re1 w1 => ⟨α, ρ1, ws, ρ', re1, r2, e2, fun σ2 re2 w2 => k σ2 re2 fun vs hv => ?_⟩⟩
        rw [w2 vs fun i hi => hv i (by simp [Tg.slots, hi]), w1 vs fun i hi => hv i (by simp [Tg.slots, hi])]
end
end Pv
namespace Pv
open PySem PySem.Spec PyProof.Rows L2
theorem small_b {i : Int} (h : small i = true) : -(2 ^ 62) ≤ i ∧ i < 2 ^ 62 := by
  unfold small at h
  simpa using h
theorem big_size : big ≤ sizeLine := by rw [sizeLine_eq]; unfold big; omega
theorem rangeL_length : ∀ (n : Nat) (lo : Int), (rangeL lo n).length = n
  | 0, _ => rfl
  | n + 1, lo => by simp [rangeL, rangeL_length n]
theorem rangeL_get : ∀ (n : Nat) (lo : Int) (i : Nat), i < n → (rangeL lo n)[i]? = some (.int (lo + i))
  | n + 1, lo, 0, _ => by simp [rangeL]
  | n + 1, lo, i + 1, h => by
    have := rangeL_get n (lo + 1) i (by omega)
    show (rangeL (lo + 1) n)[i]? = _
    rw [this]
    congr 2
    push_cast
    omega
section
variable {G : Glo} {n : Nat}
theorem GoodJ.range {H : Hp} {α : Al} {lo : Int} {k : Nat} (h : k ≤ big) : GoodJ G H α (Itr lo k) (.lst (rangeL lo k)) := by
  refine ⟨_, .inr rfl, by rw [rangeL_length]; exact Nat.le_trans h big_size, _, _, by rw [rangeL_length]; exact walk_range, fun _ _ => trivial, fun i H1 x H2 _ hi y => ?_⟩
  obtain ⟨rfl, rfl⟩ := y
  rw [rangeL_length] at hi
  exact ⟨.inl rfl, _, rangeL_get k lo i hi, .int _⟩
theorem GoodJ.lst {H : Hp} {α : Al} {a : Addr} {xs : List V} {l : List PV} (h : FL H a xs) (z : xs.length ≤ sizeLine) (f : FzAll G.K H xs l) : GoodJ G H α (Itl G.K a) (.lst l) := by
  refine ⟨_, .inr rfl, by rw [← f.length]; exact z, _, _, by rw [← f.length]; exact walk_list (xs := xs), fun _ e => (h.ext e).sq, fun i H1 x H2 e hi y => ?_⟩
  obtain ⟨rfl, y⟩ := y
  obtain ⟨d, e1, e2⟩ := f.get' y
  exact ⟨.inl rfl, d, e1, e2.ext e⟩
theorem GoodJ.tup {H : Hp} {α : Al} {a : Addr} {xs : List V} {l : List PV} (h : SqT G.K H a xs) (z : xs.length ≤ sizeLine) (f : FzAll G.K H xs l) : GoodJ G H α (Itt G.K a) (.tup l) := by
  refine ⟨_, .inl rfl, by rw [← f.length]; exact z, _, _, by rw [← f.length]; exact walk_tup (xs := xs), fun _ e => SqT.ext e h, fun i H1 x H2 e hi y => ?_⟩
  obtain ⟨rfl, y⟩ := y
  obtain ⟨d, e1, e2⟩ := f.get' y
  exact ⟨.inl rfl, d, e1, e2.ext e⟩
/-- what is walked is a list or a tuple -/
def tSeqI (K : PySem.W.Frag) (te : TE) : TI := fun σ H R => te σ H fun x H1 => ∃ a xs, x = .ref a ∧ ((SqL K H1 a xs ∧ R (Itl K a) H1) ∨ (SqT K H1 a xs ∧ R (Itt K a) H1))
theorem pi_seq {X : Cx} {tg e : Expr} {te : TE} (he : PE X e te) : PI X tg e (tSeqI X.K te) := by
  refine ⟨fun pins s0 σ Ho R Io hw => ?_⟩
  refine thn (he.run pins s0 σ Ho _ Io hw) fun uo sA ⟨xo, HA, IA, rA, a, xs, ex, hq⟩ => ?_
  subst ex
  cases rA
  have fpA : ∀ b ∈ [sA.heap.objs.size], FpOk X pins HA b := fun b hb => by
    obtain rfl : b = sA.heap.objs.size := by simpa using hb
    exact IA.fpOk (Nat.le_refl _) (IA.hok.fresh (Nat.le_refl _))
  rcases hq with ⟨hl, qR⟩ | ⟨ht, qR⟩
  · obtain ⟨vals, rv, pv, _⟩ := IA.list hl
    exact wpAny_pyIter_list pv.isList ⟨_, [sA.heap.objs.size], _, _, HA, rfl, IA.kept (t' := sA.toks) fun b ob eb => Heap.get?_push_of_some _ eb, turn_list a _, ⟨_, Heap.get?_push_size _ rfl, rfl, rfl⟩, fpA, qR⟩
  · obtain ⟨vals, rv, pv, _⟩ := IA.tuple ht
    exact wpAny_pyIter_tuple (items := vals.toArray) pv ⟨_, [sA.heap.objs.size], _, _, HA, rfl, IA.kept (t' := sA.toks) fun b ob eb => Heap.get?_push_of_some _ eb, turn_tuple a _, ⟨_, Heap.get?_push_size _ rfl, rfl, rfl⟩, fpA, qR⟩
theorem PI.weak {X : Cx} {tg e : Expr} {t t' : TI} (h : PI X tg e t) (k : ∀ σ H Q, t' σ H Q → t σ H Q) : PI X tg e t' := ⟨fun pins s σ H Q I q => h.run pins s σ H Q I (k _ _ _ q)⟩
theorem Post.seq {γ : Type} {rel : Hp → Al → V → γ → Prop} {rel' : Hp → Al → It → PV → Prop} {H : Hp} {α : Al} {Q : VK} {S : It → Hp → Prop} {E : EW} {r : R PV} {f : PV → Mem → R γ} (h : Post G rel (Pv.bnd r f) H α Q E) (hf : ∀ v m, sq v m = .no → f v m = .no)
    (k : ∀ v m' x H1 α1, Stp H α H1 α1 → rel' H1 α1 x v → MemR G H1 α1 m' → Post G rel (f v m') H1 α1 Q E → S x H1) : Post G rel' (Pv.bnd r sq) H α S E := by
  cases r with
  | no => exact h
  | exc x m => exact h
  | ok v m =>
    simp only [bnd_ok] at h ⊢
    cases e : sq v m with
    | no => rw [hf v m e] at h; exact h.elim
    | exc x m' => cases v <;> cases e
    | ok w m' =>
      have e1 : w = v ∧ m' = m := by cases v <;> first | (cases e; exact ⟨rfl, rfl⟩) | cases e
      obtain ⟨rfl, rfl⟩ := e1
      exact fun x H1 α1 st rx me => k _ _ x H1 α1 st rx me (Post.base (r := f w m') h st)
/-- a value that is walked -/
theorem okI_val {c : E} (hc : OkE G n c) : OkI G n c := by
  intro N sc e tg X W C _ hk
  refine PI.weak (pi_seq (hc N sc e X W C hk)) fun σ H R ⟨α, ρ, m, re, me, q⟩ => ⟨α, ρ, m, re, me, ?_⟩
  refine Post.bnd q fun v m1 x H1 α1 st rv me1 q1 => ?_
  cases v with
  | tup l =>
    cases rv with
    | d f =>
      cases f with
      | tup z1 z2 z3 =>
        rw [C.K]
        exact ⟨_, _, rfl, .inr ⟨z1, Post.ok (v := PV.tup l) (rel := GoodJ G) q1 (GoodJ.tup z1 z2 z3) me1⟩⟩
  | lst l =>
    cases rv with
    | d f =>
      cases f with
      | lst z1 z2 z3 =>
        rw [C.K]
        exact ⟨_, _, rfl, .inl ⟨z1.sq, Post.ok (v := PV.lst l) (rel := GoodJ G) q1 (GoodJ.lst z1 z2 z3) me1⟩⟩
  | _ => exact q1.elim
theorem ok_rng (hG : GOk G) {a : E} (ha : OkE G n a) : OkI G n (.rng a) := by
  intro N sc e tg X W C _ h
  cases e with
  | Call fe es kw pos =>
    cases fe with
    | Name x p =>
      cases kw with
      | cons _ _ => simp only [chkE, Bool.false_eq_true] at h
      | nil =>
        rcases es with _ | ⟨e, _ | ⟨f, es⟩⟩ <;> simp only [chkE, Bool.false_eq_true, Bool.and_eq_true, decide_eq_true_eq] at h
        obtain ⟨⟨h1, h2⟩, h3⟩ := h
        subst h1
        obtain ⟨g1, g2, g3, g4⟩ := blt_ok hG C h2
        have e1 := starEach_plain (es := []) (env := X.env) (chk_plain h3)
        refine PI.weak (pi_range1 g1 g2 (pa_cons (ha N sc _ X W C h3) pa_nil e1) e1) fun σ H R ⟨α, ρ, m, re, me, q⟩ => ⟨α, ρ, m, re, me, ?_⟩
        simp only [evE] at q
        generalize evE G.pr.con (run G.pr n) a ρ m = r at q ⊢
        cases r with
        | no => exact q
        | exc x m1 => exact q
        | ok v m1 =>
          simp only [bnd_ok] at q
          intro x H1 α1 st rv me1
          have q := Post.base q st
          cases v with
          | int i =>
            have e2 := fz_int rv
            subst e2
            by_cases hb : i ≤ (big : Int) ∧ small i = true
            · have q := q
              simp only [if_pos hb] at q
              obtain ⟨b1, b2⟩ := small_b hb.2
              exact ⟨i, rfl, b1, b2, Post.ok (rel := GoodJ G) q (GoodJ.range (by omega)) me1⟩
            · simp only [if_neg hb] at q
              exact q.elim
          | _ => exact q.elim
    | _ => simp only [chkE, Bool.false_eq_true] at h
  | _ => simp only [chkE, Bool.false_eq_true] at h
theorem ok_rng2 (hG : GOk G) {a b : E} (ha : OkE G n a) (hb : OkE G n b) : OkI G n (.rng2 a b) := by
  intro N sc e tg X W C _ h
  cases e with
  | Call fe es kw pos =>
    cases fe with
    | Name x p =>
      cases kw with
      | cons _ _ => simp only [chkE, Bool.false_eq_true] at h
      | nil =>
        rcases es with _ | ⟨e, _ | ⟨f, _ | ⟨g, es⟩⟩⟩ <;> simp only [chkE, Bool.false_eq_true, Bool.and_eq_true, decide_eq_true_eq] at h
        obtain ⟨⟨⟨h1, h2⟩, h3⟩, h4⟩ := h
        subst h1
        obtain ⟨g1, g2, g3, g4⟩ := blt_ok hG C h2
        have e1 := starEach_plain (es := [f]) (env := X.env) (chk_plain h3)
        have e2 := starEach_plain (es := []) (env := X.env) (chk_plain h4)
        refine PI.weak (pi_range2 g1 g2 (pa_cons (ha N sc _ X W C h3) (pa_cons (hb N sc _ X W C h4) pa_nil e2) e1) (by rw [e1, e2]; rfl) e2) fun σ H R ⟨α, ρ, m, re, me, q⟩ => ⟨α, ρ, m, re, me, ?_⟩
        simp only [evE] at q
        generalize evE G.pr.con (run G.pr n) a ρ m = r at q ⊢
        cases r with
        | no => exact q
        | exc x m1 => exact q
        | ok v m1 =>
          simp only [bnd_ok] at q
          intro x H1 α1 st rv me1
          have q := Post.base q st
          refine ⟨α1, ρ, m1, re.ext st.ext st.le, me1, ?_⟩
          generalize evE G.pr.con (run G.pr n) b ρ m1 = r at q ⊢
          cases r with
          | no => exact q
          | exc x m1 => exact q
          | ok w m2 =>
            simp only [bnd_ok] at q
            intro y H2 α2 st2 rw' me2
            have q := Post.base q st2
            cases v with
            | int i =>
              cases w with
              | int j =>
                have e3 := fz_int rv
                have e4 := fz_int rw'
                subst e3 e4
                by_cases hb : j - i ≤ (big : Int) ∧ small i = true ∧ small j = true
                · have q := q
                  simp only [if_pos hb] at q
                  obtain ⟨b1, b2⟩ := small_b hb.2.1
                  obtain ⟨b3, b4⟩ := small_b hb.2.2
                  exact ⟨i, j, rfl, ⟨b1, b2, b3, b4⟩, Post.ok (rel := GoodJ G) q (GoodJ.range (by omega)) me2⟩
                · simp only [if_neg hb] at q
                  exact q.elim
              | _ => exact q.elim
            | _ => exact q.elim
    | _ => simp only [chkE, Bool.false_eq_true] at h
  | _ => simp only [chkE, Bool.false_eq_true] at h
end
end Pv
namespace Pv
open PySem PySem.Spec PyProof.Rows L2
theorem bnd_assoc {α β γ : Type} (r : R α) (f : α → Mem → R β) (g : β → Mem → R γ) : bnd (bnd r f) g = bnd r fun a m => bnd (f a m) g := by cases r <;> rfl
section
variable {G : Glo} {n : Nat} {H H2 : Hp} {α α2 : Al}
theorem Stp.over {p : Addr} {xs : List V} {o : HO} (st : Stp H α H2 α2) (h0 : H p = none) (hp : H2 p = some (.lst xs)) : Stp H α (L2.upd H2 p o) α2 :=
  ⟨st.ext.trans (Ext.set hp), st.le, st.new, fun a u e hn => by rw [upd_ne (ne_of_none e h0)]; exact st.keep a u e hn, fun a ha => upd_there a (st.there a ha)⟩
theorem MemR.beside {m : Mem} {p : Addr} {xs : List V} {o : HO} (me : MemR G H α m) (hp : H p = some (.lst xs)) (hn : p ∉ α) : MemR G (L2.upd H p o) α m :=
  ⟨me.len, me.nd, fun k a l e1 e2 => by
    obtain ⟨ys, h1, h2, h3⟩ := me.at_ k a l e1 e2
    exact ⟨ys, by rw [upd_ne (fun z => hn (by rw [← z]; exact List.mem_of_getElem? e1))]; exact h1, h2.ext (Ext.set hp) Le.refl, h3⟩⟩
theorem Stp.over' {p : Addr} {o : HO} (st : Stp H α H2 α2) (h0 : H p = none) (hx : Ext H2 (L2.upd H2 p o)) : Stp H α (L2.upd H2 p o) α2 :=
  ⟨st.ext.trans hx, st.le, st.new, fun a u e hn => by rw [upd_ne (ne_of_none e h0)]; exact st.keep a u e hn, fun a ha => upd_there a (st.there a ha)⟩
theorem MemR.beside' {m : Mem} {p : Addr} {o : HO} (me : MemR G H α m) (hx : Ext H (L2.upd H p o)) (hn : p ∉ α) : MemR G (L2.upd H p o) α m :=
  ⟨me.len, me.nd, fun k a l e1 e2 => by
    obtain ⟨ys, h1, h2, h3⟩ := me.at_ k a l e1 e2
    exact ⟨ys, by rw [upd_ne (fun z => hn (by rw [← z]; exact List.mem_of_getElem? e1))]; exact h1, h2.ext hx Le.refl, h3⟩⟩
theorem Stp.out {p : Addr} {o : HO} (st : Stp H α H2 α2) (hp : H p = some o) (hn : p ∉ α) : p ∉ α2 := fun z => by
  rcases st.new p z with q | q
  · exact hn q
  · rw [hp] at q; cases q
theorem PTs.weak {X : Cx} {e : List Expr} {t t' : TT} (h : PTs X e t) (k : ∀ σ H Q, t' σ H Q → t σ H Q) : PTs X e t' := ⟨fun pins s σ H Q I q => h.run pins s σ H Q I (k _ _ _ q)⟩
theorem ownOf_snd (N : List Str) (own : List Nat) : (ownOf N own).map (·.2) = own := by
  unfold ownOf
  rw [List.map_map]
  exact List.map_id own
theorem okTs {c : E} {N : List Str} {sc : Scope} {ifs : List Expr} (h : (match ifs with
    | [] => (match c with
      | .k (.bl true) => true
      | _ => false)
    | [i] => chkE G.nms N c sc i
    | _ => false) = true) (hc : OkT G n c) {X : Cx} {W : WX} (C : CG G n N sc W X) : PTs X ifs (tT G n W c) := by
  split at h
  · split at h
    · refine PTs.weak pts_nil fun σ H Q ⟨α, ρ, m, re, me, q⟩ => ?_
      exact Post.ok (v := true) (rel := fun _ _ (b : Bool) (b' : Bool) => b = b') q rfl me
    · cases h
  · exact pts_one (hc N sc _ X W C h)
  · cases h
def cbody (G : Glo) (n : Nat) (own : List Nat) (t : Tg) (c e : E) (ρ : Env) : PV → Mem → R (Option PV) := fun x m => match asg t x (wipeP ρ own) with
  | some ρ' => compT (evE G.pr.con (run G.pr n) c ρ') (evE G.pr.con (run G.pr n) e ρ') m
  | none => .no
theorem comp_parts {mu : Bool} {own : List Nat} {t : Tg} {s c e : E} (hs : OkI G n s) (hc : OkT G n c) (he : OkE G n e) {N : List Str} {sc : Scope} {X : Cx} {W : WX} {elt tg iter : Expr} {ifs : List Expr} {scope : Scope} {pos : Pos} (C : CG G n N sc W X)
    (h : chkE G.nms N (.comp mu own t s c e) sc (.ListComp elt [⟨tg, iter, ifs, 0⟩] scope pos) = true) :
    PI X tg iter (tI G n W s) ∧ BlkOk X.N X.env.scope scope (ownOf N own) ∧ (∀ (s : Shared) (H : Hp) (Ca : Addr) (cl : List (Str × Addr)) (fp : List Addr), PG (X.blk s H scope (compEnvC scope cl Ca X.env) fp) tg (tG G t)) ∧
      (∀ (s : Shared) (H : Hp) (Ca : Addr) (cl : List (Str × Addr)) (fp : List Addr), PTs (X.blk s H scope (compEnvC scope cl Ca X.env) fp) ifs (tT G n (fun _ _ _ _ => False) c)) ∧
      (∀ (s : Shared) (H : Hp) (Ca : Addr) (cl : List (Str × Addr)) (fp : List Addr), PE (X.blk s H scope (compEnvC scope cl Ca X.env) fp) elt (tE G n (fun _ _ _ _ => False) e)) ∧ (∀ x, foldedSetIterable iter X.env x = pure x) ∧
      ∀ σ H Q, tE G n W (.comp mu own t s c e) σ H Q → tLc (tI G n W s) (tG G t) (tT G n (fun _ _ _ _ => False) c) (tE G n (fun _ _ _ _ => False) e) ((ownOf N own).map (·.2)) σ H (LK Q) := by
  unfold chkE at h
  simp only [Bool.and_eq_true, decide_eq_true_eq] at h
  obtain ⟨⟨⟨⟨⟨⟨⟨h0, hst⟩, h1⟩, h2⟩, h3⟩, h4⟩, h5⟩, h6⟩ := h
  have hb : BlkOk X.N X.env.scope scope (ownOf N own) := by rw [C.nm, C.sc]; exact blkOk_by h2
  have hown : ∀ i ∈ t.slots, i ∈ own := fun i hi => by
    have := List.all_eq_true.mp h4 i hi
    simpa using this
  refine ⟨hs N sc iter tg X W C hst h1, hb, fun s H Ca cl fp => (okG_both t (C.blk s H scope hb.kind Ca cl fp) (fun x q => q)).1 h3, fun s H Ca cl fp => okTs h5 hc (C.blk s H scope hb.kind Ca cl fp), fun s H Ca cl fp => he N _ elt _ _ (C.blk s H scope hb.kind Ca cl fp) h6, folded_plain (chk_plain h1), fun σ H Q ⟨α, ρ, m, re, me, q⟩ => ⟨α, ρ, m, re, me, ?_⟩⟩
  rw [ownOf_snd]
  simp only [evE] at q
  refine Post.seq (rel' := GoodJ G) q (fun v m e => by cases v <;> first | rfl | cases e) fun sv m1 J H1 α1 st gj me1 q1 => ?_
  obtain ⟨l, hl, hz, Gd, Y, wk, hGd, hY⟩ := gj
  have q1 : Post G (Rp G) (bnd (compL (cbody G n own t c e ρ) l m1) fun vs m => mkl mu vs m) H1 α1 Q (wE W σ) := by
    rcases hl with rfl | rfl
    · exact q1
    · exact q1
  clear q
  intro D hD
  refine lc_it wk (fun i H2 => ∃ α2 m2 acc av, MemR G H2 α2 m2 ∧ H2 D = some (.lst acc) ∧ D ∉ α2 ∧ RpAll G H2 α2 acc av ∧ acc.length ≤ i ∧ Stp H1 α1 H2 α2 ∧ Post G (Rp G) (bnd (compL (cbody G n own t c e ρ) (l.drop i) m2) fun vs m => mkl mu (av ++ vs) m) H1 α1 Q (wE W σ))
    ⟨α1, m1, [], [], me1.upd hD, upd_same, (fun z => by obtain ⟨ys, q⟩ := me1.mem z; rw [hD] at q; cases q), .nil, Nat.zero_le _, Stp.laid hD, q1⟩
    (fun i H2 _ ⟨α2, m2, acc, av, _, _, _, _, _, st2, _⟩ => hGd H2 st2.ext) ?_ ?_
  · rintro i x H2 H3 hi ⟨α2, m2, acc, av, me2, hD2, hn2, ra2, hlen, st2, q2⟩ y
    obtain ⟨hH, it, hit, hf⟩ := hY i H2 x H3 st2.ext hi y
    have st3 : Stp H2 α2 H3 α2 := by
      rcases hH with rfl | ⟨T, o, hT, rfl⟩
      · exact Stp.refl
      · exact Stp.laid hT
    have me3 : MemR G H3 α2 m2 := by
      rcases hH with rfl | ⟨T, o, hT, rfl⟩
      · exact me2
      · exact me2.upd hT
    have hdr : l.drop i = it :: l.drop (i + 1) := by
      obtain ⟨h1, h2⟩ := List.getElem?_eq_some_iff.mp hit
      rw [List.drop_eq_getElem_cons h1, h2]
    rw [hdr] at q2
    unfold compL at q2
    generalize hF : compL (cbody G n own t c e ρ) (l.drop (i + 1)) = F at q2 ⊢
    unfold cbody at q2
    cases ea : asg t it (wipeP ρ own) with
    | none => rw [ea] at q2; exact q2.elim
    | some ρ' =>
      rw [ea] at q2
      have st13 := st2.trans st3
      refine ⟨α2, wipeP ρ own, it, ρ', ((re.ext st.ext st.le).ext st13.ext st13.le).wipe own, .d hf, ea, fun σ2 re2 w2 => ⟨?_, α2, ρ', m2, re2, me3, ?_⟩⟩
      · rw [w2 own hown]
        have key : ∀ (ws : List Nat) (τ : L2.St), (∀ i ∈ ws, i ∈ own) → L2.wipe (L2.wipe τ ws) own = L2.wipe τ own := by
          intro ws τ
          induction ws with
          | nil => intro _; rfl
          | cons w ws ih =>
            intro hw
            show L2.wipe ((L2.wipe τ ws).set w none) own = _
            rw [wipe_set (hw w (by simp)), ih fun i hi => hw i (by simp [hi])]
        exact key own σ fun i hi => hi
      · simp only [compT, bnd_assoc] at q2
        generalize evE G.pr.con (run G.pr n) c ρ' m2 = r1 at q2 ⊢
        cases r1 with
        | no => exact q2.elim
        | exc xn mx => exact q2.elim
        | ok cv m3 =>
          simp only [noexc_ok, bnd_ok] at q2 ⊢
          unfold tstB at q2 ⊢
          cases et : truth m3 cv with
          | none => rw [et] at q2; exact q2.elim
          | some b =>
            rw [et] at q2
            simp only [lft_some, bnd_ok] at q2 ⊢
            intro b' H5 α3 st5 eb me5
            subst eb
            have hD3 := st3.keep D _ hD2 hn2
            have hD5 := st5.keep D _ hD3 hn2
            have hn5 := st5.out hD3 hn2
            have st15 := st13.trans st5
            have ra5 : RpAll G H5 α3 acc av := (ra2.ext st3.ext st3.le).ext st5.ext st5.le
            cases b' with
            | false =>
              simp only [Bool.false_eq_true, if_false, bnd_ok] at q2 ⊢
              exact ⟨α3, m3, acc, av, me5, hD5, hn5, ra5, Nat.le_succ_of_le hlen, st15, q2⟩
            | true =>
              simp only [if_true, bnd_assoc] at q2 ⊢
              refine ⟨α3, ρ', m3, re2.ext st5.ext st5.le, me5, ?_⟩
              generalize evE G.pr.con (run G.pr n) e ρ' m3 = r2 at q2 ⊢
              cases r2 with
              | no => exact q2.elim
              | exc xn mx => exact q2.elim
              | ok v m4 =>
                simp only [noexc_ok, bnd_ok] at q2
                intro y6 H6 α4 st6 ry me6
                have hD6 := st6.keep D _ hD5 hn5
                have hn6 := st6.out hD5 hn5
                have ex6 : Ext H6 (L2.upd H6 D (.lst (acc ++ [y6]))) := Ext.set hD6
                refine ⟨acc, hD6, by omega, α4, m4, acc ++ [y6], av ++ [v], me6.beside hD6 hn6, upd_same, hn6, Paired.append' ((ra5.ext st6.ext st6.le).ext ex6 Le.refl) (.cons (ry.ext ex6 Le.refl) .nil), by simp; omega, (st15.trans st6).over hD hD6, ?_⟩
                simpa [List.append_assoc] using q2
  · rintro H2 ⟨α2, m2, acc, av, me2, hD2, hn2, ra2, hlen, st2, q2⟩
    rw [List.drop_length] at q2
    unfold compL at q2
    simp only [bnd_ok, List.append_nil] at q2
    exact LK.mk2 (q2.base st2) hD2 hn2 ⟨H1, α1, hD, st2, q2⟩ ra2 (Nat.le_trans hlen hz) me2
theorem ok_comp {mu : Bool} {own : List Nat} {t : Tg} {s c e : E} (hs : OkI G n s) (hc : OkT G n c) (he : OkE G n e) : OkE G n (.comp mu own t s c e) := by
  intro N sc ex X W C h
  cases ex with
  | ListComp elt gens scope pos =>
    rcases gens with _ | ⟨⟨tg, iter, ifs, asy⟩, _ | ⟨g2, gs⟩⟩
    · simp only [chkE, Bool.false_eq_true] at h
    · have h0 : asy = 0 := by
        unfold chkE at h
        simp only [Bool.and_eq_true, decide_eq_true_eq] at h
        exact h.1.1.1.1.1.1.1
      subst h0
      obtain ⟨p1, p2, p3, p4, p5, p6, p7⟩ := comp_parts hs hc he C h
      exact PE.weak (PE.lk (pe_lc C.calm (by rw [C.nm]; exact C.nd) p1 p2 p3 p4 p5 p6)) fun σ H Q hq => p7 σ H Q hq
    · simp only [chkE, Bool.false_eq_true] at h
  | _ => simp only [chkE, Bool.false_eq_true] at h
end
end Pv
namespace Pv
open PySem PySem.Spec PyProof.Rows L2
section
variable {G : Glo} {n : Nat}
/-! ### methods of lists -/
theorem few1 {e : Expr} {env : PySem.Env} {pos : Pos} (h : plain e = true) : ((backTo pos (starEach [e] env)).all (fun x => !x.1) && (backToKw pos (keywordEach [] env)).all (fun x => x.1.isSome)
      && decide (([e] : List Expr).length + ([] : List Keyword).length + (if ([] : List Keyword).isEmpty then 0 else 1) < 30)) = true := by
  rw [starEach_plain h]; rfl
theorem cell_at {H : Hp} {α : Al} {m : Mem} (me : MemR G H α m) {k : Nat} {a : Addr} {l : List PV} (h : α[k]? = some a) (e : m[k]? = some l) : ∃ xs, H a = some (.lst xs) ∧ RpAll G H α xs l ∧ xs.length ≤ sizeLine := me.at_ k a l h e
theorem cell_ty {H : Hp} {α : Al} {m : Mem} (K : PySem.W.Frag) (me : MemR G H α m) {k : Nat} {a : Addr} (h : α[k]? = some a) : tyV K "list" (.ref a) H := by
  obtain ⟨xs, e⟩ := me.mem (List.mem_of_getElem? h)
  exact .inl ⟨rfl, xs, .inl (.inl e)⟩
theorem Paired.eraseIdx' {α β : Type} {F : α → β → Prop} : ∀ {a : List α} {c : List β} (i : Nat), Paired F a c → Paired F (a.eraseIdx i) (c.eraseIdx i)
  | _, _, _, .nil => .nil
  | _, _, 0, .cons _ t => t
  | _, _, i + 1, .cons q t => .cons q (Paired.eraseIdx' i t)
theorem ok_app {o e : E} (ho : OkE G n o) (he : OkE G n e) : OkE G n (.app o e) := by
  intro N sc ex X W C h
  cases ex with
  | Call fe es kw pos =>
    cases fe with
    | Attribute x y apos =>
      cases kw with
      | cons _ _ => simp only [chkE, Bool.false_eq_true] at h
      | nil =>
        rcases es with _ | ⟨z, _ | ⟨f, es⟩⟩ <;> simp only [chkE, Bool.false_eq_true, Bool.and_eq_true, decide_eq_true_eq] at h
        obtain ⟨⟨⟨⟨h1, h2⟩, h3⟩, h4⟩, h5⟩ := h
        subst h1
        refine PE.weak (pe_bm F.plainAttrs_list F.slot_list_append F.type_list_append mt_append (ho N sc _ X W C h3) (pa_cons (he N sc _ X W C h4) pa_nil (starEach_plain (chk_plain h4))) (attr_plain h5) (few1 (chk_plain h4)) (by rw [h2]; exact beq_self_eq_true _) (starEach_plain (chk_plain h4)) rfl) fun σ H Q ⟨α, ρ, m, re, me, q⟩ => ⟨α, ρ, m, re, me, ?_⟩
        simp only [evE] at q
        generalize evE G.pr.con (run G.pr n) o ρ m = r at q ⊢
        cases r with
        | no => exact q
        | exc x m1 => exact q
        | ok v m1 =>
          simp only [bnd_ok] at q
          intro x H1 α1 st rv me1
          have q := Post.base q st
          cases v with
          | cell k =>
            cases rv with
            | d f => cases f
            | cell hk =>
              refine ⟨cell_ty _ me1 hk, α1, ρ, m1, re.ext st.ext st.le, me1, Post.bnd q fun w m2 y H2 α2 st2 rw' me2 q2 => ?_⟩
              cases e2 : m2[k]? with
              | none => simp only [e2] at q2; exact q2.elim
              | some l =>
                simp only [e2] at q2
                obtain ⟨xs, hx, rx, hz⟩ := me2.at_ k _ l (st2.le _ _ hk) e2
                by_cases hlt : l.length < big
                · simp only [if_pos hlt] at q2
                  have hl : xs.length < sizeLine := by rw [Paired.length rx]; exact Nat.lt_of_lt_of_le hlt big_size
                  have hex : Ext H2 (L2.upd H2 _ (.lst (xs ++ [y]))) := Ext.set hx
                  refine ⟨_, xs, y, rfl, rfl, hx, hl, q2 .non _ α2 (Stp.set hx (List.mem_of_getElem? (st2.le _ _ hk))) (.d .non) (me2.set (st2.le _ _ hk) hx (Paired.append' rx (.cons rw' .nil)) (by simp; omega))⟩
                · simp only [if_neg hlt] at q2
                  exact q2.elim
          | _ => exact q.elim
    | _ => simp only [chkE, Bool.false_eq_true] at h
  | _ => simp only [chkE, Bool.false_eq_true] at h
theorem ok_popl {o : E} (ho : OkE G n o) : OkE G n (.popl o) := by
  intro N sc ex X W C h
  cases ex with
  | Call fe es kw pos =>
    cases fe with
    | Attribute x y apos =>
      cases kw with
      | cons _ _ => cases es <;> simp only [chkE, Bool.false_eq_true] at h
      | nil =>
        rcases es with _ | ⟨z, es⟩ <;> simp only [chkE, Bool.false_eq_true, Bool.and_eq_true, decide_eq_true_eq] at h
        obtain ⟨⟨⟨h1, h2⟩, h3⟩, h5⟩ := h
        subst h1
        refine PE.weak (pe_bm0 F.plainAttrs_list F.slot_list_pop F.type_list_pop mt_pop (ho N sc _ X W C h3) (attr_plain h5) (by rw [h2]; exact beq_self_eq_true _)) fun σ H Q ⟨α, ρ, m, re, me, q⟩ => ⟨α, ρ, m, re, me, ?_⟩
        simp only [evE] at q
        refine Post.bnd q fun v m1 x H1 α1 st rv me1 q1 => ?_
        cases v with
        | cell k =>
          cases rv with
          | d f => cases f
          | cell hk =>
            refine ⟨cell_ty _ me1 hk, ?_⟩
            cases e2 : m1[k]? with
            | none => simp only [e2] at q1; exact q1.elim
            | some l =>
              simp only [e2] at q1
              obtain ⟨xs, hx, rx, hz⟩ := me1.at_ k _ l hk e2
              cases e3 : l[l.length - 1]? with
              | none => simp only [e3] at q1; exact q1.elim
              | some w =>
                simp only [e3] at q1
                obtain ⟨y, ey, ry⟩ := Paired.get' rx e3
                have hex : Ext H1 (L2.upd H1 _ (.lst xs.dropLast)) := Ext.set hx
                have hd : RpAll G H1 α1 xs.dropLast l.dropLast := by
                  rw [List.dropLast_eq_take, List.dropLast_eq_take, Paired.length rx]
                  exact Paired.take' _ rx
                exact ⟨_, xs, y, rfl, rfl, hx, by rw [Paired.length rx]; exact ey, q1 y _ α1 (Stp.set hx (List.mem_of_getElem? hk)) (ry.ext hex Le.refl) (me1.set hk hx hd (by rw [List.length_dropLast]; omega))⟩
        | _ => exact q1.elim
    | _ => cases es <;> cases kw <;> simp only [chkE, Bool.false_eq_true] at h
  | _ => simp only [chkE, Bool.false_eq_true] at h
theorem ok_popi {o i : E} (ho : OkE G n o) (hi : OkE G n i) : OkE G n (.popi o i) := by
  intro N sc ex X W C h
  cases ex with
  | Call fe es kw pos =>
    cases fe with
    | Attribute x y apos =>
      cases kw with
      | cons _ _ => simp only [chkE, Bool.false_eq_true] at h
      | nil =>
        rcases es with _ | ⟨z, _ | ⟨f, es⟩⟩ <;> simp only [chkE, Bool.false_eq_true, Bool.and_eq_true, decide_eq_true_eq] at h
        obtain ⟨⟨⟨⟨h1, h2⟩, h3⟩, h4⟩, h5⟩ := h
        subst h1
        refine PE.weak (pe_bm F.plainAttrs_list F.slot_list_pop F.type_list_pop mt_popAt (ho N sc _ X W C h3) (pa_cons (hi N sc _ X W C h4) pa_nil (starEach_plain (chk_plain h4))) (attr_plain h5) (few1 (chk_plain h4)) (by rw [h2]; exact beq_self_eq_true _) (starEach_plain (chk_plain h4)) rfl) fun σ H Q ⟨α, ρ, m, re, me, q⟩ => ⟨α, ρ, m, re, me, ?_⟩
        simp only [evE] at q
        refine Post.bnd q fun v m1 x H1 α1 st rv me1 q1 => ?_
        cases v with
        | cell k =>
          cases rv with
          | d f => cases f
          | cell hk =>
            refine ⟨cell_ty _ me1 hk, α1, ρ, m1, re.ext st.ext st.le, me1, Post.bnd q1 fun w m2 y H2 α2 st2 rw' me2 q2 => ?_⟩
            cases w with
            | int i =>
              have e1 := fz_int rw'
              subst e1
              cases e2 : m2[k]? with
              | none => simp only [e2] at q2; exact q2.elim
              | some l =>
                simp only [e2] at q2
                have hk2 := st2.le _ _ hk
                obtain ⟨xs, hx, rx, hz⟩ := me2.at_ k _ l hk2 e2
                cases e3 : atI l.length i with
                | none => simp only [e3] at q2; exact q2.elim
                | some j =>
                  simp only [e3] at q2
                  cases e4 : l[j]? with
                  | none => simp only [e4] at q2; exact q2.elim
                  | some u =>
                    simp only [e4] at q2
                    obtain ⟨y, ey, ry⟩ := Paired.get' rx e4
                    have hex : Ext H2 (L2.upd H2 _ (.lst (xs.eraseIdx j))) := Ext.set hx
                    have hlen := Paired.length rx
                    have hix : L2.ixN xs.length i = some j := by rw [hlen]; exact e3
                    obtain ⟨s1, s2, s3, s4⟩ := L2.ixN_seq hix
                    have hb : (xs.length : Int) ≤ 2 ^ 62 := by
                      have := hz
                      rw [sizeLine_eq] at this
                      omega
                    exact ⟨_, xs, i, j, y, rfl, rfl, hx, by omega, by omega, s1, ey, q2 y _ α2 (Stp.set hx (List.mem_of_getElem? hk2)) (ry.ext hex Le.refl) (me2.set hk2 hx (Paired.eraseIdx' j rx) (Nat.le_trans (L2.len_erase xs j) hz))⟩
            | _ => exact q2.elim
        | _ => exact q1.elim
    | _ => simp only [chkE, Bool.false_eq_true] at h
  | _ => simp only [chkE, Bool.false_eq_true] at h
/-! ### zip -/
theorem zipL_length : ∀ (a b : List PV), (zipL a b).length = min a.length b.length
  | [], b => by cases b <;> simp [zipL]
  | x :: a, [] => by simp [zipL]
  | x :: a, y :: b => by simp [zipL, zipL_length a b]
theorem zipL_get : ∀ (a b : List PV) (i : Nat) (x y : PV), a[i]? = some x → b[i]? = some y → (zipL a b)[i]? = some (.tup [x, y])
  | [], _, i, x, y, h, _ => by simp at h
  | _ :: _, [], i, x, y, _, h => by simp at h
  | u :: a, v :: b, 0, x, y, h1, h2 => by simp at h1 h2; simp [zipL, h1, h2]
  | u :: a, v :: b, i + 1, x, y, h1, h2 => by
    show (zipL a b)[i]? = _
    exact zipL_get a b i x y (by simpa using h1) (by simpa using h2)
theorem GoodJ.zip {H : Hp} {α : Al} {J : It} {xs ys : List V} {l r : List PV} {Gd : Hp → Prop} (w : Walk J (min xs.length ys.length) Gd (YPair (fun i => xs[i]?) (fun i => ys[i]?))) (hg : ∀ H', Ext H H' → Gd H') (hx : FzAll G.K H xs l) (hy : FzAll G.K H ys r) (hz : xs.length ≤ sizeLine) : GoodJ G H α J (.lst (zipL l r)) := by
  refine ⟨_, .inr rfl, by rw [zipL_length, ← hx.length]; omega, Gd, _, by rw [zipL_length, ← hx.length, ← hy.length]; exact w, hg, fun i H1 x H2 e hi y => ?_⟩
  obtain ⟨T, u, v, rfl, hT, rfl, h1, h2⟩ := y
  obtain ⟨d1, e1, f1⟩ := hx.get' h1
  obtain ⟨d2, e2, f2⟩ := hy.get' h2
  have hex : Ext H (L2.upd H1 T (.tup [u, v])) := e.trans (Ext.new hT)
  exact ⟨.inr ⟨T, _, hT, rfl⟩, _, zipL_get l r i d1 d2 e1 e2, .tup (SqT.of upd_same) (small_size (by simp)) (.cons (f1.ext hex) (.cons (f2.ext hex) .nil))⟩
theorem ok_zip (hG : GOk G) {a b : E} (ha : OkE G n a) (hb : OkE G n b) : OkI G n (.zip a b) := by
  intro N sc e tg X W C ht h
  cases tg <;> try (cases ht; done)
  cases e with
  | Call fe es kw pos =>
    cases fe with
    | Name x p =>
      cases kw with
      | cons _ _ => simp only [chkE, Bool.false_eq_true] at h
      | nil =>
        rcases es with _ | ⟨e, _ | ⟨f, _ | ⟨g, es⟩⟩⟩ <;> simp only [chkE, Bool.false_eq_true, Bool.and_eq_true, decide_eq_true_eq] at h
        obtain ⟨⟨⟨h1, h2⟩, h3⟩, h4⟩ := h
        subst h1
        obtain ⟨g1, g2, g3, g4⟩ := blt_ok hG C h2
        have e1 := starEach_plain (es := [f]) (env := X.env) (chk_plain h3)
        have e2 := starEach_plain (es := []) (env := X.env) (chk_plain h4)
        refine PI.weak (RZ.pi_zipA g1 g2 (pa_cons (ha N sc _ X W C h3) (pa_cons (hb N sc _ X W C h4) pa_nil e2) e1) e1 (by rw [e2]; rfl)) fun σ H R ⟨α, ρ, m, re, me, q⟩ => ⟨α, ρ, m, re, me, ?_⟩
        simp only [evE, bnd_assoc] at q
        refine Post.bnd q fun v m1 x H1 α1 st rv me1 q1 => ⟨α1, ρ, m1, re.ext st.ext st.le, me1, Post.bnd q1 fun w m2 y H2 α2 st2 rw' me2 q2 => ?_⟩
        have rv2 := rv.ext st2.ext st2.le
        rw [C.K]
        cases v <;> cases w <;> try (exact q2.elim)
        · cases rv2 with
          | d f1 =>
            cases f1 with
            | tup z1 z2 z3 =>
              cases rw' with
              | d f2 =>
                cases f2 with
                | tup y1 y2 y3 => exact ⟨_, _, _, _, rfl, .inr ⟨z1, y1, Post.ok (rel := GoodJ G) q2 (GoodJ.zip (Gd := fun H => SqT G.K H _ _ ∧ SqT G.K H _ _) ⟨fun i H hi q => by
                    have h1 : i < _ := Nat.lt_of_lt_of_le hi (Nat.min_le_left _ _)
                    have h2 : i < _ := Nat.lt_of_lt_of_le hi (Nat.min_le_right _ _)
                    exact ⟨_, _, _, _, q.1, q.2, List.getElem?_eq_getElem h1, List.getElem?_eq_getElem h2⟩, fun H q => ⟨_, _, q.1, q.2, by omega⟩, fun i H x H' hi q ⟨T, u, v, h1, h2, h3, h4, h5⟩ => ⟨T, u, v, h1, h2, h3, h4 _ q.1, h5 _ q.2⟩⟩ (fun H' e => ⟨SqT.ext e z1, SqT.ext e y1⟩) z3 y3 z2) me2⟩⟩
        · cases rv2 with
          | d f1 =>
            cases f1 with
            | lst z1 z2 z3 =>
              cases rw' with
              | d f2 =>
                cases f2 with
                | lst y1 y2 y3 => exact ⟨_, _, _, _, rfl, .inl ⟨z1.sq, y1.sq, Post.ok (rel := GoodJ G) q2 (GoodJ.zip (walk_zip rfl) (fun H' e => ⟨(FL.ext e z1).sq, (FL.ext e y1).sq⟩) z3 y3 z2) me2⟩⟩
    | _ => simp only [chkE, Bool.false_eq_true] at h
  | _ => simp only [chkE, Bool.false_eq_true] at h
end
end Pv
namespace Pv
open PySem PySem.Spec PyProof.Rows L2
section
variable {G : Glo} {n : Nat}
/-! ### a written dict's get -/
def kOf (k : List Nat) : Key := .inr ⟨k.toArray⟩
theorem kOf_inj {a b : List Nat} (h : kOf a = kOf b) : a = b := by
  unfold kOf at h
  have h1 : (⟨a.toArray⟩ : Str) = ⟨b.toArray⟩ := Sum.inr.inj h
  have h2 : a.toArray = b.toArray := by injection h1
  simpa using congrArg Array.toList h2
theorem Ext.dk {H : Hp} {p : Addr} {kvs : List (Key × V)} {o : HO} (h : H p = some (.dK kvs)) : Ext H (L2.upd H p o) :=
  ⟨fun a ys e => by rw [upd_ne (ne_of e h (by intro z; cases z))]; exact e, fun a o' u e => by rw [upd_ne (ne_of e h (by intro z; cases z))]; exact e⟩
def dPairs : List (List Nat) → List V → List (Key × V)
  | k :: ks, x :: xs => (kOf k, x) :: dPairs ks xs
  | _, _ => []
theorem dPairs_keys : ∀ {ks : List (List Nat)} {xs : List V} {q : Key × V}, q ∈ dPairs ks xs → ∃ k ∈ ks, q.1 = kOf k
  | [], _, q, h => by simp [dPairs] at h
  | _ :: _, [], q, h => by simp [dPairs] at h
  | k :: ks, x :: xs, q, h => by
    rcases List.mem_cons.mp h with rfl | h
    · exact ⟨k, by simp, rfl⟩
    · obtain ⟨k', h1, h2⟩ := dPairs_keys h
      exact ⟨k', by simp [h1], h2⟩
theorem merge_new : ∀ (more acc : List (Key × V)), (more.map (·.1)).Nodup → (∀ p ∈ acc, ∀ q ∈ more, p.1 ≠ q.1) → mergeK acc more = acc ++ more
  | [], acc, _, _ => by simp [mergeK]
  | p :: more, acc, hn, hd => by
    rw [List.map_cons, List.nodup_cons] at hn
    show mergeK (putK acc p.1 p.2) more = _
    have e : putK acc p.1 p.2 = acc ++ [p] := by
      unfold putK
      rw [if_neg]
      intro z
      obtain ⟨q, hq, ez⟩ := List.any_eq_true.mp z
      exact hd q hq p (by simp) (by simpa using ez)
    rw [e, merge_new more (acc ++ [p]) hn.2 fun a ha q hq => ?_]
    · simp
    · rcases List.mem_append.mp ha with ha | ha
      · exact hd a ha q (by simp [hq])
      · have : a = p := by simpa using ha
        subst this
        intro z
        exact hn.1 (List.mem_map.mpr ⟨q, hq, z.symm⟩)
theorem dPairs_nodup : ∀ {ks : List (List Nat)} {xs : List V}, ks.Nodup → ((dPairs ks xs).map (·.1)).Nodup
  | [], _, _ => by simp [dPairs]
  | _ :: _, [], _ => by simp [dPairs]
  | k :: ks, x :: xs, h => by
    rw [List.nodup_cons] at h
    show ((kOf k) :: (dPairs ks xs).map (·.1)).Nodup
    rw [List.nodup_cons]
    refine ⟨fun z => ?_, dPairs_nodup h.2⟩
    obtain ⟨q, hq, e⟩ := List.mem_map.mp z
    obtain ⟨k', h1, h2⟩ := dPairs_keys hq
    have := kOf_inj (h2.symm.trans e)
    subst this
    exact h.1 h1
theorem dPairs_get {H : Hp} {α : Al} {s : List Nat} : ∀ {ks : List (List Nat)} {xs : List V} {l : List PV}, RpAll G H α xs l → (∀ x, valV (dPairs ks xs) (kOf s) = some x → ∃ v, lkS ks l s = some v ∧ Rp G H α x v) ∧ (valV (dPairs ks xs) (kOf s) = none → lkS ks l s = none)
  | [], xs, l, _ => ⟨fun x e => by simp [dPairs, valV] at e, fun _ => by cases l <;> rfl⟩
  | k :: ks, _, _, .nil => ⟨fun x e => by simp [dPairs, valV] at e, fun _ => rfl⟩
  | k :: ks, x :: xs, v :: l, .cons r t => by
    by_cases hk : k = s
    · subst hk
      have e1 : valV (dPairs (k :: ks) (x :: xs)) (kOf k) = some x := valV_pos rfl
      rw [e1]
      have e2 : lkS (k :: ks) (v :: l) k = some v := by simp [lkS]
      rw [e2]
      exact ⟨fun y e => by cases e; exact ⟨v, rfl, r⟩, fun e => by cases e⟩
    · have e1 : valV (dPairs (k :: ks) (x :: xs)) (kOf s) = valV (dPairs ks xs) (kOf s) := by
        show (List.find? _ ((kOf k, x) :: dPairs ks xs)).map _ = _
        rw [List.find?_cons]
        have : decide (kOf k = kOf s) = false := decide_eq_false fun z => hk (kOf_inj z)
        simp only [this]
        rfl
      have e2 : lkS (k :: ks) (v :: l) s = lkS ks l s := by simp [lkS, hk]
      rw [e1, e2]
      exact dPairs_get t
def tP (G : Glo) (n : Nat) (W : WX) (ks : List (List Nat)) (c : E) (σ : L2.St) (H : Hp) (Q : List (V × V) → Hp → Prop) : Prop := ∃ α ρ m, EnvR G H α ρ σ ∧ MemR G H α m ∧
  Post G (fun H α (ps : List (V × V)) r => ∃ xs, RpAll G H α xs (unl r) ∧ ks.length = xs.length ∧ ps = (dPairs ks xs).map fun kv => (kV kv.1, kv.2)) (evE G.pr.con (run G.pr n) c ρ m) H α Q (wE W σ)
def OkP (G : Glo) (n : Nat) (c : E) : Prop := ∀ (N : List Str) (sc : Scope) (X : Cx) (W : WX) (pos : Pos) (ks : List (List Nat)) (kes : List (Option Expr)) (ves : List Expr), CG G n N sc W X → chkL G.nms N c sc ves = true → keysB ks kes = true → ks.length = ves.length →
  ∃ trs, PPs X pos kes ves trs ∧ ∀ σ H Q, tP G n W ks c σ H Q → tPairs trs σ H Q
theorem okP_none {c : E} (h : ∀ (N : List Str) (sc : Scope) (es : List Expr), chkL G.nms N c sc es = true → False) : OkP G n c := fun N sc X W pos ks kes ves C hc => (h N sc ves hc).elim
theorem okP_nil : OkP G n .nil := by
  intro N sc X W pos ks kes ves C h1 h2 h3
  cases ves with
  | cons _ _ => simp only [chkL, Bool.false_eq_true] at h1
  | nil =>
    cases ks with
    | cons _ _ => cases h3
    | nil =>
      cases kes with
      | cons _ _ => cases h2
      | nil => exact ⟨[], pps_nil, fun σ H Q ⟨α, ρ, m, re, me, q⟩ => q [] H α Stp.refl ⟨[], .nil, rfl, rfl⟩ me⟩
theorem okP_cons {a l : E} (ha : OkE G n a) (hl : OkP G n l) : OkP G n (.cons a l) := by
  intro N sc X W pos ks kes ves C h1 h2 h3
  cases ves with
  | nil => simp only [chkL, Bool.false_eq_true] at h1
  | cons ve ves =>
    simp only [chkL, Bool.and_eq_true] at h1
    cases ks with
    | nil => cases h3
    | cons k ks =>
      cases kes with
      | nil => cases h2
      | cons ke kes =>
        cases ke with
        | none => cases h2
        | some ke =>
          cases ke with
          | Constant cv x1 x2 =>
            cases cv with
            | str x =>
              simp only [keysB, Bool.and_eq_true, decide_eq_true_eq] at h2
              obtain ⟨e1, h2⟩ := h2
              subst e1
              obtain ⟨trs, hp, ht⟩ := hl N sc X W pos ks kes ves C h1.2 h2 (by simpa using h3)
              refine ⟨(_, _) :: trs, pps_cons pe_str (ha N sc ve X W C h1.1) hp, fun σ H Q ⟨α, ρ, m, re, me, q⟩ => ⟨α, ρ, m, re, me, ?_⟩⟩
              simp only [evE] at q
              refine Post.bnd q fun v m1 x H1 α1 st rv me1 q1 => ht _ _ _ ⟨α1, ρ, m1, re.ext st.ext st.le, me1, ?_⟩
              generalize evE G.pr.con (run G.pr n) l ρ m1 = r at q1 ⊢
              cases r with
              | no => exact q1
              | exc x m1 => exact q1
              | ok w m2 =>
                simp only [bnd_ok] at q1
                rintro ps H2 α2 st2 ⟨xs, rx, hl, rfl⟩ me2
                exact q1 _ H2 α2 st2 ⟨x :: xs, .cons (rv.ext st2.ext st2.le) rx, by simp [hl], rfl⟩ me2
            | _ => cases h2
          | _ => cases h2
theorem keysB_len : ∀ {ks : List (List Nat)} {kes : List (Option Expr)}, keysB ks kes = true → kes.length = ks.length ∧ kes.all (·.isSome) = true
  | [], [], _ => ⟨rfl, rfl⟩
  | [], _ :: _, h => by cases h
  | _ :: _, [], h => by cases h
  | k :: ks, none :: _, h => by cases h
  | k :: ks, some e :: kes, h => by
    cases e with
    | Constant cv _ _ =>
      cases cv with
      | str x =>
        simp only [keysB, Bool.and_eq_true] at h
        obtain ⟨h1, h2⟩ := keysB_len h.2
        exact ⟨by simp [h1], by simp [h2]⟩
      | _ => cases h
    | _ => cases h
theorem dPairs_len : ∀ {ks : List (List Nat)} {xs : List V}, ks.length = xs.length → (dPairs ks xs).length = ks.length
  | [], _, _ => rfl
  | _ :: _, [], h => by cases h
  | k :: ks, x :: xs, h => by show (dPairs ks xs).length + 1 = _; rw [dPairs_len (by simpa using h)]; rfl
theorem ok_dget {ks : List (List Nat)} {vs k d : E} (hv : OkP G n vs) (hk : OkE G n k) (hd : OkE G n d) : OkE G n (.dget ks vs k d) := by
  intro N sc ex X W C h
  cases ex with
  | Call fe es kw pos =>
    cases fe with
    | Attribute x y apos =>
      cases x with
      | Dict kes ves dpos =>
        cases kw with
        | cons _ _ => rcases es with _ | ⟨e, _ | ⟨f, _ | ⟨g, es⟩⟩⟩ <;> simp only [chkE, Bool.false_eq_true] at h
        | nil =>
          rcases es with _ | ⟨e, _ | ⟨f, _ | ⟨g, es⟩⟩⟩ <;> simp only [chkE, Bool.false_eq_true, Bool.and_eq_true, decide_eq_true_eq] at h
          obtain ⟨⟨⟨⟨⟨⟨⟨⟨⟨h1, h2⟩, h3⟩, h4⟩, h5⟩, h6⟩, h7⟩, h8⟩, h9⟩, h10⟩ := h
          subst h1
          obtain ⟨l1, l2⟩ := keysB_len h3
          obtain ⟨trs, hp, ht⟩ := hv N sc X W dpos ks kes ves C h8 h3 h5
          have s1 := starEach_plain (es := [f]) (env := X.env) (chk_plain h9)
          have s2 := starEach_plain (es := []) (env := X.env) (chk_plain h10)
          refine PE.weak (pe_dget2 (by have := C.room.un; unfold cLine at *; omega) (pe_disp hp l2 (by rw [l1, h5]) (fun z => h6 (by rw [← List.length_eq_zero_iff, ← l1, z]; rfl)) (by rw [l1]; exact h7)) (hk N sc e X W C h9) (hd N sc f X W C h10) ⟨rfl, by rw [s1, s2]; rfl, by rw [h2]; exact beq_self_eq_true _, by rw [s1, s2]; rfl⟩) fun σ H Q ⟨α, ρ, m, re, me, q⟩ => ?_
          intro p hpn
          have st0 : Stp H α (L2.upd H p (.dK [])) α := Stp.laid hpn
          refine ht _ _ _ ⟨α, ρ, m, re.ext st0.ext st0.le, me.upd hpn, ?_⟩
          simp only [evE] at q
          have hpα : p ∉ α := fun z => by obtain ⟨ys, e⟩ := me.mem z; rw [hpn] at e; cases e
          generalize evE G.pr.con (run G.pr n) vs ρ m = r at q ⊢
          cases r with
          | no => exact q
          | exc x m1 => exact q.base st0
          | ok w m1 =>
            simp only [bnd_ok] at q
            rintro ps H1 α1 st1 ⟨xs, rx, hl, rfl⟩ me1
            have hp1 : H1 p = some (.dK []) := st1.keep p _ upd_same hpα
            have hn1 : p ∉ α1 := st1.out upd_same hpα
            refine ⟨hp1, dPairs ks xs, rfl, by rw [dPairs_len hl]; exact h7, ?_⟩
            have em : mergeK [] (dPairs ks xs) = dPairs ks xs := by
              rw [merge_new _ [] (dPairs_nodup h4) (by simp)]; rfl
            rw [em]
            have hex : Ext H1 (L2.upd H1 p (.dK (dPairs ks xs))) := Ext.dk hp1
            have st3 : Stp H α (L2.upd H1 p (.dK (dPairs ks xs))) α1 := (st0.trans st1).over' hpn hex
            have me3 : MemR G (L2.upd H1 p (.dK (dPairs ks xs))) α1 m1 := me1.beside' hex hn1
            have rx3 := rx.ext hex Le.refl
            refine ⟨p, rfl, .inl ⟨_, .inl upd_same⟩, α1, ρ, m1, re.ext st3.ext st3.le, me3, Post.bnd (q.base st3) fun kv m2 y H4 α4 st4 ry me4 q4 => ⟨α4, ρ, m2, (re.ext st3.ext st3.le).ext st4.ext st4.le, me4, ?_⟩⟩
            generalize evE G.pr.con (run G.pr n) d ρ m2 = r2 at q4 ⊢
            cases r2 with
            | no => exact q4
            | exc x m1 => exact q4
            | ok v m3 =>
              simp only [bnd_ok] at q4
              intro z H5 α5 st5 rz me5
              cases kv with
              | str s =>
                cases ry with
                | d f =>
                  cases f
                  have hp5 : H5 p = some (.dK (dPairs ks xs)) := (st4.trans st5).keep p _ upd_same hn1
                  refine ⟨valV (dPairs ks xs) (kOf s), .inl ⟨_, kOf s, .inl hp5, rfl, rfl⟩, ?_⟩
                  have rx5 := (rx3.ext st4.ext st4.le).ext st5.ext st5.le
                  obtain ⟨g1, g2⟩ := dPairs_get (s := s) (ks := ks) rx5
                  refine q4 _ H5 α5 st5 ?_ me5
                  cases e : valV (dPairs ks xs) (kOf s) with
                  | none => rw [g2 e]; exact rz
                  | some x =>
                    obtain ⟨u, e1, e2⟩ := g1 x e
                    rw [e1]
                    exact e2
              | _ => exact q4.elim
      | _ => simp only [chkE, Bool.false_eq_true] at h
    | _ => simp only [chkE, Bool.false_eq_true] at h
  | _ => simp only [chkE, Bool.false_eq_true] at h
end
end Pv
namespace Pv
open PySem PySem.Spec PyProof.Rows L2
section
variable {G : Glo} {n : Nat}
def tIte (a b c : TT) : TT := fun σ H Q => a σ H fun k H1 => if k = true then b σ H1 Q else c σ H1 Q
theorem pt_ite {X : Cx} {a b c : Expr} {ta tb tc : TT} {pos : Pos} (ha : PT X a ta) (hb : PT X b tb) (hc : PT X c tc) : PT X (.IfExp a b c pos) (tIte ta tb tc) := by
  refine ⟨fun pins s0 σ Ho Q Io hw => ?_⟩
  show wpAny _ _ (do if ← isTrue a X.env (eval a X.env) then isTrue b X.env (eval b X.env) else isTrue c X.env (eval c X.env)) _ _ _
  refine wpAny_bind (thn (ha.run pins s0 σ Ho _ Io hw) fun k s1 ⟨H1, I1, q1⟩ => ?_)
  cases k with
  | true => exact hb.run pins s1 σ H1 Q I1 q1
  | false => exact hc.run pins s1 σ H1 Q I1 q1
theorem okT_ite {c a b : E} (hc : OkT G n c) (ha : OkT G n a) (hb : OkT G n b) : OkT G n (.ite c a b) := by
  intro N sc e X W C h
  cases e <;> simp only [chkE, Bool.false_eq_true, Bool.and_eq_true] at h
  obtain ⟨⟨h1, h2⟩, h3⟩ := h
  refine PT.weak (pt_ite (hc N sc _ X W C h1) (ha N sc _ X W C h2) (hb N sc _ X W C h3)) fun σ H Q ⟨α, ρ, m, re, me, q⟩ => ⟨α, ρ, m, re, me, ?_⟩
  simp only [evE] at q
  generalize evE G.pr.con (run G.pr n) c ρ m = r at q ⊢
  cases r with
  | no => exact q
  | exc x m => exact q
  | ok v m1 =>
    simp only [bnd_ok] at q ⊢
    unfold tstB
    split at q
    · rename_i e
      rw [e]
      intro x H1 α1 st rv me1
      subst rv
      rw [if_pos rfl]
      exact ⟨α1, ρ, m1, re.ext st.ext st.le, me1, q.base st⟩
    · rename_i e
      rw [e]
      intro x H1 α1 st rv me1
      subst rv
      rw [if_neg Bool.false_ne_true]
      exact ⟨α1, ρ, m1, re.ext st.ext st.le, me1, q.base st⟩
    · exact q.elim
theorem plain_true {e : Expr} (h : (match e with
    | .UnaryOp .Not _ _ => false
    | .BoolOp .. => false
    | .IfExp .. => false
    | .Compare .. => false
    | _ => true) = true) (env : PySem.Env) (whole : Sem Value) : isTrue e env whole = (do let v ← whole; standAt e.pos; holding [v] (truthy v)) := by
  cases e <;> first | rfl | (cases h; done) | skip
  rename_i op _ _
  cases op <;> first | rfl | (cases h; done)
/-- a test that is a value -/
theorem okT_plain {c : E} (h : OkE G n c) (hp : ∀ (N : List Str) (sc : Scope) (e : Expr), chkE G.nms N c sc e = true → (match e with
    | .UnaryOp .Not _ _ => false
    | .BoolOp .. => false
    | .IfExp .. => false
    | .Compare .. => false
    | _ => true) = true) : OkT G n c := okT_of h fun N sc e env hk whole => plain_true (hp N sc e hk) env whole
theorem okE_none {c : E} (h : ∀ (N : List Str) (sc : Scope) (e : Expr), chkE G.nms N c sc e = true → False) : OkE G n c := fun N sc e X W C hk => (h N sc e hk).elim
theorem okT_none {c : E} (h : ∀ (N : List Str) (sc : Scope) (e : Expr), chkE G.nms N c sc e = true → False) : OkT G n c := fun N sc e X W C hk => (h N sc e hk).elim
theorem okI_none {c : E} (h : ∀ (N : List Str) (sc : Scope) (e : Expr), chkE G.nms N c sc e = true → False) : OkI G n c := fun N sc e tg X W C _ hk => (h N sc e hk).elim
structure Va (G : Glo) (n : Nat) (c : E) : Prop where
  e : OkE G n c
  t : OkT G n c
  l : OkL G n c
  p : OkP G n c
  w : OkW G n c
theorem va_mk {c : E} (he : OkE G n c) (ht : OkT G n c) (hl : ∀ (N : List Str) (sc : Scope) (es : List Expr), chkL G.nms N c sc es = true → False) (hw : ∀ (N : List Str) (sc : Scope) (op : BoolOp) (vs : List Expr) (pos : Pos), chkE G.nms N c sc (.BoolOp op vs pos) = true → False) : Va G n c :=
  ⟨he, ht, okL_none hl, okP_none hl, okW_no hw⟩
theorem ok_all (hG : GOk G) (hF : FnsOk G n) : ∀ c : E, (vOk c = true → Va G n c) ∧ (iOk c = true → OkI G n c) := by
  intro c
  induction c with
  | k v =>
    exact ⟨fun h => va_mk (ok_k hG v) (okT_plain (ok_k hG v) (fun N sc e h => by cases v <;> cases e <;> first | rfl | (simp only [chkE, Bool.false_eq_true] at h; done) | (rename_i op _ _; cases op <;> first | rfl | (simp only [chkE, Bool.false_eq_true] at h; done)))) (fun N sc es h => by cases es <;> simp only [chkL, Bool.false_eq_true] at h) (fun N sc op vs pos h => by cases v <;> simp only [chkE, Bool.false_eq_true] at h), fun h => okI_val (ok_k hG v)⟩
  | loc i =>
    exact ⟨fun h => va_mk (ok_loc i) (okT_plain (ok_loc i) (fun N sc e h => by cases e <;> first | rfl | (simp only [chkE, Bool.false_eq_true] at h; done) | (rename_i op _ _; cases op <;> first | rfl | (simp only [chkE, Bool.false_eq_true] at h; done)))) (fun N sc es h => by cases es <;> simp only [chkL, Bool.false_eq_true] at h) (fun N sc op vs pos h => by simp only [chkE, Bool.false_eq_true] at h), fun h => okI_val (ok_loc i)⟩
  | glo i =>
    exact ⟨fun h => va_mk (ok_glo hG i) (okT_plain (ok_glo hG i) (fun N sc e h => by cases e <;> first | rfl | (simp only [chkE, Bool.false_eq_true] at h; done) | (rename_i op _ _; cases op <;> first | rfl | (simp only [chkE, Bool.false_eq_true] at h; done)))) (fun N sc es h => by cases es <;> simp only [chkL, Bool.false_eq_true] at h) (fun N sc op vs pos h => by simp only [chkE, Bool.false_eq_true] at h), fun h => okI_val (ok_glo hG i)⟩
  | bin mu o a b iha ihb =>
    have hv : vOk (.bin mu o a b) = true → OkE G n (.bin mu o a b) := fun h => by
      simp only [vOk, Bool.and_eq_true] at h
      obtain ⟨h0, h1⟩ := h
      exact ok_bin (iha.1 h0).e (ihb.1 h1).e
    refine ⟨fun h => va_mk (hv h) (okT_plain (hv h) (fun N sc e h => by cases e <;> first | rfl | (simp only [chkE, Bool.false_eq_true] at h; done) | (rename_i op _ _; cases op <;> first | rfl | (simp only [chkE, Bool.false_eq_true] at h; done)))) (fun N sc es h => by cases es <;> simp only [chkL, Bool.false_eq_true] at h) (fun N sc op vs pos h => by simp only [chkE, Bool.false_eq_true] at h), fun h => ?_⟩
    exact okI_val (hv (by simpa only [vOk, iOk] using h))
  | neg a iha =>
    have hv : vOk (.neg a) = true → OkE G n (.neg a) := fun h => by
      simp only [vOk, Bool.and_eq_true] at h
      have h0 := h
      exact ok_neg (iha.1 h0).e
    refine ⟨fun h => va_mk (hv h) (okT_plain (hv h) (fun N sc e h => by cases e <;> first | rfl | (simp only [chkE, Bool.false_eq_true] at h; done) | (rename_i op _ _; cases op <;> first | rfl | (simp only [chkE, Bool.false_eq_true] at h; done)))) (fun N sc es h => by cases es <;> simp only [chkL, Bool.false_eq_true] at h) (fun N sc op vs pos h => by simp only [chkE, Bool.false_eq_true] at h), fun h => ?_⟩
    simp only [iOk, Bool.false_eq_true] at h
  | not a iha =>
    refine ⟨fun h => ?_, fun h => ?_⟩
    · simp only [vOk, Bool.and_eq_true] at h
      have h0 := h
      exact va_mk (ok_not (iha.1 h0).e) (okT_not (iha.1 h0).t) (fun N sc es h => by cases es <;> simp only [chkL, Bool.false_eq_true] at h) (fun N sc op vs pos h => by simp only [chkE, Bool.false_eq_true] at h)
    · simp only [iOk, Bool.false_eq_true] at h
  | and a b iha ihb =>
    refine ⟨fun h => ?_, fun h => ?_⟩
    · simp only [vOk, Bool.and_eq_true] at h
      obtain ⟨h0, h1⟩ := h
      exact ⟨ok_and (iha.1 h0).e (ihb.1 h1).e, okT_w (okW_and (iha.1 h0).t (ihb.1 h1).t (ihb.1 h1).w) (fun N sc e h => by cases e <;> first | exact ⟨_, _, _, rfl⟩ | (simp only [chkE, Bool.false_eq_true] at h)), okL_none (fun N sc es h => by cases es <;> simp only [chkL, Bool.false_eq_true] at h), okP_none (fun N sc es h => by cases es <;> simp only [chkL, Bool.false_eq_true] at h), okW_and (iha.1 h0).t (ihb.1 h1).t (ihb.1 h1).w⟩
    · simp only [iOk, Bool.false_eq_true] at h
  | or a b iha ihb =>
    refine ⟨fun h => ?_, fun h => ?_⟩
    · simp only [vOk, Bool.and_eq_true] at h
      obtain ⟨h0, h1⟩ := h
      exact ⟨ok_or (iha.1 h0).e (ihb.1 h1).e, okT_w (okW_or (iha.1 h0).t (ihb.1 h1).t (ihb.1 h1).w) (fun N sc e h => by cases e <;> first | exact ⟨_, _, _, rfl⟩ | (simp only [chkE, Bool.false_eq_true] at h)), okL_none (fun N sc es h => by cases es <;> simp only [chkL, Bool.false_eq_true] at h), okP_none (fun N sc es h => by cases es <;> simp only [chkL, Bool.false_eq_true] at h), okW_or (iha.1 h0).t (ihb.1 h1).t (ihb.1 h1).w⟩
    · simp only [iOk, Bool.false_eq_true] at h
  | cmp c a b iha ihb =>
    refine ⟨fun h => ?_, fun h => ?_⟩
    · simp only [vOk, Bool.and_eq_true] at h
      obtain ⟨h0, h1⟩ := h
      exact va_mk (ok_cmp (iha.1 h0).e (ihb.1 h1).e) (okT_cmp (iha.1 h0).e (ihb.1 h1).e) (fun N sc es h => by cases es <;> simp only [chkL, Bool.false_eq_true] at h) (fun N sc op vs pos h => by simp only [chkE, Bool.false_eq_true] at h)
    · simp only [iOk, Bool.false_eq_true] at h
  | cmp2 c d a b e iha ihb ihe =>
    refine ⟨fun h => ?_, fun h => ?_⟩
    · simp only [vOk, Bool.and_eq_true] at h
      obtain ⟨⟨h0, h1⟩, h2⟩ := h
      exact va_mk (ok_cmp2 (iha.1 h0).e (ihb.1 h1).e (ihe.1 h2).e) (okT_cmp2 (iha.1 h0).e (ihb.1 h1).e (ihe.1 h2).e) (fun N sc es h => by cases es <;> simp only [chkL, Bool.false_eq_true] at h) (fun N sc op vs pos h => by simp only [chkE, Bool.false_eq_true] at h)
    · simp only [iOk, Bool.false_eq_true] at h
  | ite c a b ihc iha ihb =>
    have hv : vOk (.ite c a b) = true → OkE G n (.ite c a b) ∧ OkT G n (.ite c a b) := fun h => by
      simp only [vOk, Bool.and_eq_true] at h
      obtain ⟨⟨h0, h1⟩, h2⟩ := h
      exact ⟨ok_ite (ihc.1 h0).t (iha.1 h1).e (ihb.1 h2).e, okT_ite (ihc.1 h0).t (iha.1 h1).t (ihb.1 h2).t⟩
    refine ⟨fun h => va_mk (hv h).1 (hv h).2 (fun N sc es h => by cases es <;> simp only [chkL, Bool.false_eq_true] at h) (fun N sc op vs pos h => by simp only [chkE, Bool.false_eq_true] at h), fun h => ?_⟩
    exact okI_val (hv (by simpa only [vOk, iOk] using h)).1
  | nil =>
    refine ⟨fun h => ⟨okE_none fun N sc e h => ?_, okT_none fun N sc e h => ?_, okL_nil, okP_nil, okW_no fun N sc op vs pos h => ?_⟩, fun h => ?_⟩
    · simp only [chkE, Bool.false_eq_true] at h
    · simp only [chkE, Bool.false_eq_true] at h
    · simp only [chkE, Bool.false_eq_true] at h
    · simp only [iOk, Bool.false_eq_true] at h
  | cons a l iha ihl =>
    refine ⟨fun h => ?_, fun h => ?_⟩
    · simp only [vOk, Bool.and_eq_true] at h
      obtain ⟨h0, h1⟩ := h
      refine ⟨okE_none fun N sc e h => ?_, okT_none fun N sc e h => ?_, okL_cons (iha.1 h0).e (ihl.1 h1).l, okP_cons (iha.1 h0).e (ihl.1 h1).p, okW_no fun N sc op vs pos h => ?_⟩
      · simp only [chkE, Bool.false_eq_true] at h
      · simp only [chkE, Bool.false_eq_true] at h
      · simp only [chkE, Bool.false_eq_true] at h
    · simp only [iOk, Bool.false_eq_true] at h
  | tup l ihl =>
    have hv : vOk (.tup l) = true → OkE G n (.tup l) := fun h => by
      simp only [vOk, Bool.and_eq_true] at h
      have h0 := h
      exact ok_tup (ihl.1 h0).l
    refine ⟨fun h => va_mk (hv h) (okT_plain (hv h) (fun N sc e h => by cases e <;> first | rfl | (simp only [chkE, Bool.false_eq_true] at h; done) | (rename_i op _ _; cases op <;> first | rfl | (simp only [chkE, Bool.false_eq_true] at h; done)))) (fun N sc es h => by cases es <;> simp only [chkL, Bool.false_eq_true] at h) (fun N sc op vs pos h => by simp only [chkE, Bool.false_eq_true] at h), fun h => ?_⟩
    exact okI_val (hv (by simpa only [vOk, iOk] using h))
  | lst mu l ihl =>
    have hv : vOk (.lst mu l) = true → OkE G n (.lst mu l) := fun h => by
      simp only [vOk, Bool.and_eq_true] at h
      have h0 := h
      exact ok_lst (ihl.1 h0).l
    refine ⟨fun h => va_mk (hv h) (okT_plain (hv h) (fun N sc e h => by cases e <;> first | rfl | (simp only [chkE, Bool.false_eq_true] at h; done) | (rename_i op _ _; cases op <;> first | rfl | (simp only [chkE, Bool.false_eq_true] at h; done)))) (fun N sc es h => by cases es <;> simp only [chkL, Bool.false_eq_true] at h) (fun N sc op vs pos h => by simp only [chkE, Bool.false_eq_true] at h), fun h => ?_⟩
    exact okI_val (hv (by simpa only [vOk, iOk] using h))
  | ix a b iha ihb =>
    have hv : vOk (.ix a b) = true → OkE G n (.ix a b) := fun h => by
      simp only [vOk, Bool.and_eq_true] at h
      obtain ⟨h0, h1⟩ := h
      exact ok_ix (iha.1 h0).e (ihb.1 h1).e
    refine ⟨fun h => va_mk (hv h) (okT_plain (hv h) (fun N sc e h => by cases e <;> first | rfl | (simp only [chkE, Bool.false_eq_true] at h; done) | (rename_i op _ _; cases op <;> first | rfl | (simp only [chkE, Bool.false_eq_true] at h; done)))) (fun N sc es h => by cases es <;> simp only [chkL, Bool.false_eq_true] at h) (fun N sc op vs pos h => by simp only [chkE, Bool.false_eq_true] at h), fun h => ?_⟩
    exact okI_val (hv (by simpa only [vOk, iOk] using h))
  | sl a b c iha ihb ihc =>
    have hv : vOk (.sl a b c) = true → OkE G n (.sl a b c) := fun h => by
      simp only [vOk, Bool.and_eq_true] at h
      obtain ⟨⟨h0, h1⟩, h2⟩ := h
      exact ok_sl (iha.1 h0).e (ihb.1 h1).e (ihc.1 h2).e
    refine ⟨fun h => va_mk (hv h) (okT_plain (hv h) (fun N sc e h => by cases e <;> first | rfl | (simp only [chkE, Bool.false_eq_true] at h; done) | (rename_i op _ _; cases op <;> first | rfl | (simp only [chkE, Bool.false_eq_true] at h; done)))) (fun N sc es h => by cases es <;> simp only [chkL, Bool.false_eq_true] at h) (fun N sc op vs pos h => by simp only [chkE, Bool.false_eq_true] at h), fun h => ?_⟩
    exact okI_val (hv (by simpa only [vOk, iOk] using h))
  | rev a iha =>
    refine ⟨fun h => ⟨okE_none fun N sc e h => ?_, okT_none fun N sc e h => ?_, okL_none (fun N sc es h => by cases es <;> simp only [chkL, Bool.false_eq_true] at h), okP_none (fun N sc es h => by cases es <;> simp only [chkL, Bool.false_eq_true] at h), okW_no fun N sc op vs pos h => ?_⟩, fun h => okI_none fun N sc e h => ?_⟩
    · cases e <;> simp only [chkE, Bool.false_eq_true] at h
    · cases e <;> simp only [chkE, Bool.false_eq_true] at h
    · simp only [chkE, Bool.false_eq_true] at h
    · cases e <;> simp only [chkE, Bool.false_eq_true] at h
  | call f l ihl =>
    have hv : vOk (.call f l) = true → OkE G n (.call f l) := fun h => by
      simp only [vOk, Bool.and_eq_true] at h
      have h0 := h
      exact ok_call hG hF (ihl.1 h0).l
    refine ⟨fun h => va_mk (hv h) (okT_plain (hv h) (fun N sc e h => by cases e <;> first | rfl | (simp only [chkE, Bool.false_eq_true] at h; done) | (rename_i op _ _; cases op <;> first | rfl | (simp only [chkE, Bool.false_eq_true] at h; done)))) (fun N sc es h => by cases es <;> simp only [chkL, Bool.false_eq_true] at h) (fun N sc op vs pos h => by simp only [chkE, Bool.false_eq_true] at h), fun h => ?_⟩
    exact okI_val (hv (by simpa only [vOk, iOk] using h))
  | callv f l ihf ihl =>
    have hv : vOk (.callv f l) = true → OkE G n (.callv f l) := fun h => by
      simp only [vOk, Bool.and_eq_true] at h
      obtain ⟨h0, h1⟩ := h
      exact ok_callv hF (ihf.1 h0).e (ihl.1 h1).l
    refine ⟨fun h => va_mk (hv h) (okT_plain (hv h) (fun N sc e h => by cases e <;> first | rfl | (simp only [chkE, Bool.false_eq_true] at h; done) | (rename_i op _ _; cases op <;> first | rfl | (simp only [chkE, Bool.false_eq_true] at h; done)))) (fun N sc es h => by cases es <;> simp only [chkL, Bool.false_eq_true] at h) (fun N sc op vs pos h => by simp only [chkE, Bool.false_eq_true] at h), fun h => ?_⟩
    exact okI_val (hv (by simpa only [vOk, iOk] using h))
  | bf mu b l ihl =>
    have hv : vOk (.bf mu b l) = true → OkE G n (.bf mu b l) := fun h => by
      simp only [vOk, Bool.and_eq_true] at h
      have h0 := h
      exact ok_bf hG (ihl.1 h0).l
    refine ⟨fun h => va_mk (hv h) (okT_plain (hv h) (fun N sc e h => by cases e <;> first | rfl | (simp only [chkE, Bool.false_eq_true] at h; done) | (rename_i op _ _; cases op <;> first | rfl | (simp only [chkE, Bool.false_eq_true] at h; done)))) (fun N sc es h => by cases es <;> simp only [chkL, Bool.false_eq_true] at h) (fun N sc op vs pos h => by simp only [chkE, Bool.false_eq_true] at h), fun h => ?_⟩
    exact okI_val (hv (by simpa only [vOk, iOk] using h))
  | isi a t iha =>
    have hv : vOk (.isi a t) = true → OkE G n (.isi a t) := fun h => by
      simp only [vOk, Bool.and_eq_true] at h
      have h0 := h
      exact ok_isi hG (iha.1 h0).e
    refine ⟨fun h => va_mk (hv h) (okT_plain (hv h) (fun N sc e h => by cases e <;> first | rfl | (simp only [chkE, Bool.false_eq_true] at h; done) | (rename_i op _ _; cases op <;> first | rfl | (simp only [chkE, Bool.false_eq_true] at h; done)))) (fun N sc es h => by cases es <;> simp only [chkL, Bool.false_eq_true] at h) (fun N sc op vs pos h => by simp only [chkE, Bool.false_eq_true] at h), fun h => ?_⟩
    simp only [iOk, Bool.false_eq_true] at h
  | rng a iha =>
    refine ⟨fun h => ?_, fun h => ?_⟩
    · simp only [vOk, Bool.false_eq_true] at h
    · simp only [iOk, Bool.and_eq_true] at h
      have h0 := h
      exact ok_rng hG (iha.1 h0).e
  | rng2 a b iha ihb =>
    refine ⟨fun h => ?_, fun h => ?_⟩
    · simp only [vOk, Bool.false_eq_true] at h
    · simp only [iOk, Bool.and_eq_true] at h
      obtain ⟨h0, h1⟩ := h
      exact ok_rng2 hG (iha.1 h0).e (ihb.1 h1).e
  | enu a iha =>
    refine ⟨fun h => ?_, fun h => okI_none fun N sc e h => ?_⟩
    · simp only [vOk, Bool.false_eq_true] at h
    · cases e <;> simp only [chkE, Bool.false_eq_true] at h
  | zip a b iha ihb =>
    refine ⟨fun h => ?_, fun h => ?_⟩
    · simp only [vOk, Bool.false_eq_true] at h
    · simp only [iOk, Bool.and_eq_true] at h
      obtain ⟨h0, h1⟩ := h
      exact ok_zip hG (iha.1 h0).e (ihb.1 h1).e
  | comp mu own t s c e ihs ihc ihe =>
    have hv : vOk (.comp mu own t s c e) = true → OkE G n (.comp mu own t s c e) := fun h => by
      simp only [vOk, Bool.and_eq_true] at h
      obtain ⟨⟨h0, h1⟩, h2⟩ := h
      exact ok_comp (ihs.2 h0) (ihc.1 h1).t (ihe.1 h2).e
    refine ⟨fun h => va_mk (hv h) (okT_plain (hv h) (fun N sc e h => by cases e <;> first | rfl | (simp only [chkE, Bool.false_eq_true] at h; done) | (rename_i op _ _; cases op <;> first | rfl | (simp only [chkE, Bool.false_eq_true] at h; done)))) (fun N sc es h => by cases es <;> simp only [chkL, Bool.false_eq_true] at h) (fun N sc op vs pos h => by simp only [chkE, Bool.false_eq_true] at h), fun h => ?_⟩
    exact okI_val (hv (by simpa only [vOk, iOk] using h))
  | app o e iho ihe =>
    have hv : vOk (.app o e) = true → OkE G n (.app o e) := fun h => by
      simp only [vOk, Bool.and_eq_true] at h
      obtain ⟨h0, h1⟩ := h
      exact ok_app (iho.1 h0).e (ihe.1 h1).e
    refine ⟨fun h => va_mk (hv h) (okT_plain (hv h) (fun N sc e h => by cases e <;> first | rfl | (simp only [chkE, Bool.false_eq_true] at h; done) | (rename_i op _ _; cases op <;> first | rfl | (simp only [chkE, Bool.false_eq_true] at h; done)))) (fun N sc es h => by cases es <;> simp only [chkL, Bool.false_eq_true] at h) (fun N sc op vs pos h => by simp only [chkE, Bool.false_eq_true] at h), fun h => ?_⟩
    simp only [iOk, Bool.false_eq_true] at h
  | popl o iho =>
    have hv : vOk (.popl o) = true → OkE G n (.popl o) := fun h => by
      simp only [vOk, Bool.and_eq_true] at h
      have h0 := h
      exact ok_popl (iho.1 h0).e
    refine ⟨fun h => va_mk (hv h) (okT_plain (hv h) (fun N sc e h => by cases e <;> first | rfl | (simp only [chkE, Bool.false_eq_true] at h; done) | (rename_i op _ _; cases op <;> first | rfl | (simp only [chkE, Bool.false_eq_true] at h; done)))) (fun N sc es h => by cases es <;> simp only [chkL, Bool.false_eq_true] at h) (fun N sc op vs pos h => by simp only [chkE, Bool.false_eq_true] at h), fun h => ?_⟩
    exact okI_val (hv (by simpa only [vOk, iOk] using h))
  | popi o i iho ihi =>
    have hv : vOk (.popi o i) = true → OkE G n (.popi o i) := fun h => by
      simp only [vOk, Bool.and_eq_true] at h
      obtain ⟨h0, h1⟩ := h
      exact ok_popi (iho.1 h0).e (ihi.1 h1).e
    refine ⟨fun h => va_mk (hv h) (okT_plain (hv h) (fun N sc e h => by cases e <;> first | rfl | (simp only [chkE, Bool.false_eq_true] at h; done) | (rename_i op _ _; cases op <;> first | rfl | (simp only [chkE, Bool.false_eq_true] at h; done)))) (fun N sc es h => by cases es <;> simp only [chkL, Bool.false_eq_true] at h) (fun N sc op vs pos h => by simp only [chkE, Bool.false_eq_true] at h), fun h => ?_⟩
    exact okI_val (hv (by simpa only [vOk, iOk] using h))
  | index o e iho ihe =>
    refine ⟨fun h => ⟨okE_none fun N sc e h => ?_, okT_none fun N sc e h => ?_, okL_none (fun N sc es h => by cases es <;> simp only [chkL, Bool.false_eq_true] at h), okP_none (fun N sc es h => by cases es <;> simp only [chkL, Bool.false_eq_true] at h), okW_no fun N sc op vs pos h => ?_⟩, fun h => okI_none fun N sc e h => ?_⟩
    · cases e <;> simp only [chkE, Bool.false_eq_true] at h
    · cases e <;> simp only [chkE, Bool.false_eq_true] at h
    · simp only [chkE, Bool.false_eq_true] at h
    · cases e <;> simp only [chkE, Bool.false_eq_true] at h
  | dget ks a b c iha ihb ihc =>
    have hv : vOk (.dget ks a b c) = true → OkE G n (.dget ks a b c) := fun h => by
      simp only [vOk, Bool.and_eq_true] at h
      obtain ⟨⟨h0, h1⟩, h2⟩ := h
      exact ok_dget (iha.1 h0).p (ihb.1 h1).e (ihc.1 h2).e
    refine ⟨fun h => va_mk (hv h) (okT_plain (hv h) (fun N sc e h => by cases e <;> first | rfl | (simp only [chkE, Bool.false_eq_true] at h; done) | (rename_i op _ _; cases op <;> first | rfl | (simp only [chkE, Bool.false_eq_true] at h; done)))) (fun N sc es h => by cases es <;> simp only [chkL, Bool.false_eq_true] at h) (fun N sc op vs pos h => by simp only [chkE, Bool.false_eq_true] at h), fun h => ?_⟩
    exact okI_val (hv (by simpa only [vOk, iOk] using h))
end
end Pv
namespace Pv
open PySem PySem.Spec PyProof.Rows L2
/-! ## Statements -/
def isSeq : S → Bool
  | .seq _ _ => true
  | _ => false
def noComp : Expr → Bool
  | .ListComp .. => false
  | .SetComp .. => false
  | .DictComp .. => false
  | _ => true
def noTup : Expr → Bool
  | .Tuple .. => false
  | _ => true
def ownB (scope : Scope) (y : Str) : Bool := scope.names.any fun (n, k) => n == y && (k == .local || k == .cell)
def asgB (sc : Scope) (y : Str) (py : Pos) : Expr → Bool
  | .ListComp _ _ scope pos => (decide (sc.names.lookup y = some .local) && (py.line == pos.line) && !(ownB scope y)) || decide (sc.names.lookup y = some .cell)
  | _ => decide (sc.names.lookup y = some .local) || decide (sc.names.lookup y = some .cell)
def parB (N : List Str) (sc : Scope) (es : List Expr) : Tg → List Expr → Bool
  | .t (.cons (.v i) (.cons (.v j) .nil)), [.Name x px, .Name y py] => decide (N[i]? = some x) && decide (N[j]? = some y) && decide (sc.names.lookup x = some .local) && decide (sc.names.lookup y = some .local) && decide (i ≠ j) && decide (x ≠ y) && decide (py.line = px.line) &&
    decide (es.length = 2) && !(es.all (foldedForSure 8)) && !(es.all (constantsAlone 8))
  | .t (.cons (.v i) (.cons (.v j) (.cons (.v l) .nil))), [.Name x px, .Name y py, .Name z pz] => decide (N[i]? = some x) && decide (N[j]? = some y) && decide (N[l]? = some z) && decide (sc.names.lookup x = some .local) && decide (sc.names.lookup y = some .local) && decide (sc.names.lookup z = some .local) &&
    decide (i ≠ j) && decide (i ≠ l) && decide (j ≠ l) && decide (x ≠ y) && decide (x ≠ z) && decide (y ≠ z) && decide (py.line = px.line) && decide (pz.line = px.line) && decide (es.length = 3) && !(es.all (foldedForSure 8)) && !(es.all (constantsAlone 8))
  | .t tl, ts => chkTs N (fun _ => true) sc tl ts && decide (ts.length ≤ 1000) && (!(ts.length == 2 || ts.length == 3) || es.length != ts.length || es.all (foldedForSure 8))
  | _, _ => false
section
variable (nm : Nm) (N : List Str)
def chkS : S → Scope → List Stmt → Bool
  | .skip, _, [] => true
  | .skip, _, [.Pass _] => true
  | .seq a b, sc, st :: rest => !(isSeq a) && chkS a sc [st] && chkS b sc rest
  | .ex e, sc, [.Expr x _] => vOk e && chkE nm N e sc x && noComp x
  | .ret e, sc, [.Return (some x) _] => vOk e && chkE nm N e sc x
  | .ret (.k .non), _, [.Return none _] => true
  | .asg (.v i) e, sc, [.Assign [.Name y py] x pos] => vOk e && decide (N[i]? = some y) && chkE nm N e sc x && asgB sc y py x
  | .asg (.t l) e, sc, [.Assign [.Tuple ts _ _] x pos] => vOk e && chkTs N (fun _ => true) sc l ts && chkE nm N e sc x && noTup x && noComp x
  | .par t l, sc, [.Assign [.Tuple ts _ _] (.Tuple es _ _) pos] => vOk l && chkL nm N l sc es && parB N sc es t ts
  | .setix o i e, sc, [.Assign [.Subscript x y _] z pos] => vOk o && vOk i && vOk e && chkE nm N o sc x && chkE nm N i sc y && chkE nm N e sc z && noComp z
  | .ite c a b, sc, [.If t xs ys _] => vOk c && chkE nm N c sc t && chkS a sc xs && chkS b sc ys
  | .for_ t s b, sc, [.For tg iter body [] _] => iOk s && srcT s tg && chkE nm N s sc iter && chkT N (fun _ => true) sc t tg && chkS b sc body
  | .whl c b, sc, [.While t body [] _] => vOk c && chkE nm N c sc t && chkS b sc body
  | .brk, _, [.Break _] => true
  | .cnt, _, [.Continue _] => true
  | _, _, _ => false
end
def PostS (G : Glo) (W : WX) (r : R (Fl × Env)) (H : Hp) (α : Al) (D : Ends) : Prop := match r with
  | .ok (f, ρ) m => ∀ H' α', Stp H α H' α' → MemR G H' α' m → (match f with
    | .next => ∀ σ', EnvR G H' α' ρ σ' → D.nx σ' H'
    | .brk => ∀ σ', EnvR G H' α' ρ σ' → D.bk σ' H'
    | .cnt => ∀ σ', EnvR G H' α' ρ σ' → D.ct σ' H'
    | .ret v => ∀ x, Rp G H' α' x v → D.rt x H')
  | .exc xn m => ∀ C d σ' H' α', Stp H α H' α' → MemR G H' α' m → XnR G xn C d → W C d σ' H'
  | .no => False
section
variable {G : Glo} {n : Nat} {W : WX} {H H1 : Hp} {α α1 : Al} {D : Ends}
theorem PostS.base {r : R (Fl × Env)} (h : PostS G W r H α D) (e : Stp H α H1 α1) : PostS G W r H1 α1 D := by
  cases r with
  | ok v m =>
    obtain ⟨f, ρ⟩ := v
    exact fun H' α' e' me => h H' α' (e.trans e') me
  | exc x m => exact fun C d σ' H' α' e' => h C d σ' H' α' (e.trans e')
  | no => exact h
theorem PostS.bnd {γ β : Type} {rel : Hp → Al → β → γ → Prop} {r : R γ} {f : γ → Mem → R (Fl × Env)} {S : β → Hp → Prop} {σ : L2.St} (h : PostS G W (Pv.bnd r f) H α D)
    (k : ∀ v m' x H1 α1, Stp H α H1 α1 → rel H1 α1 x v → MemR G H1 α1 m' → PostS G W (f v m') H1 α1 D → S x H1) : Post G rel r H α S (wE W σ) := by
  cases r with
  | ok v m => exact fun x H' α' e r me => k v m x H' α' e r me (PostS.base (r := f v m) h e)
  | exc x m => exact fun C d H' α' e me hx => h C d σ H' α' e me hx
  | no => exact h
theorem PostS.next {ρ : Env} {m : Mem} {σ : L2.St} (h : PostS G W (.ok (.next, ρ) m) H α D) (re : EnvR G H α ρ σ) (me : MemR G H α m) : D.nx σ H := h H α Stp.refl me σ re
def tS (G : Glo) (n : Nat) (W : WX) (c : S) : TS := fun D σ H => ∃ α ρ m, EnvR G H α ρ σ ∧ MemR G H α m ∧ PostS G W (evS G.pr.con (run G.pr n) c ρ m) H α D
/-- the frame of a def -/
structure CF (G : Glo) (n : Nat) (N : List Str) (sc : Scope) (W : WX) (X : Cx) : Prop extends CG G n N sc W X where
  fn : ∀ x, X.fn x = true
def OkS (G : Glo) (n : Nat) (c : S) : Prop := ∀ (N : List Str) (sc : Scope) (sts : List Stmt) (X : Cx) (W : WX), CF G n N sc W X → chkS G.nms N c sc sts = true → PSs X sts (tS G n W c)
def OkS1 (G : Glo) (n : Nat) (c : S) : Prop := ∀ (N : List Str) (sc : Scope) (st : Stmt) (X : Cx) (W : WX), CF G n N sc W X → chkS G.nms N c sc [st] = true → PS X st (tS G n W c)
theorem okS_one {c : S} (h : OkS1 G n c) (h1 : ∀ (N : List Str) (sc : Scope) (sts : List Stmt), chkS G.nms N c sc sts = true → ∃ st, sts = [st]) : OkS G n c := by
  intro N sc sts X W C hk
  obtain ⟨st, rfl⟩ := h1 N sc sts hk
  exact pss_one (h N sc st X W C hk)
theorem okS1_skip : OkS1 G n .skip := by
  intro N sc st X W C h
  cases st <;> simp only [chkS, Bool.false_eq_true] at h
  exact PS.weak ps_pass fun D σ H ⟨α, ρ, m, re, me, q⟩ => PostS.next q re me
theorem okS_skip : OkS G n .skip := by
  intro N sc sts X W C h
  rcases sts with _ | ⟨st, _ | ⟨s2, r⟩⟩
  · exact PSs.weak pss_nil fun D σ H ⟨α, ρ, m, re, me, q⟩ => PostS.next q re me
  · exact pss_one (okS1_skip N sc st X W C h)
  · cases st <;> simp only [chkS, Bool.false_eq_true] at h
theorem okS_seq {a b : S} (ha : OkS1 G n a) (hb : OkS G n b) : OkS G n (.seq a b) := by
  intro N sc sts X W C h
  cases sts with
  | nil => simp only [chkS, Bool.false_eq_true] at h
  | cons st rest =>
    simp only [chkS, Bool.and_eq_true] at h
    obtain ⟨⟨h0, h1⟩, h2⟩ := h
    refine PSs.weak (pss_cons (ha N sc st X W C h1) (hb N sc rest X W C h2)) fun D σ H ⟨α, ρ, m, re, me, q⟩ => ⟨α, ρ, m, re, me, ?_⟩
    simp only [evS] at q
    generalize evS G.pr.con (run G.pr n) a ρ m = r at q ⊢
    cases r with
    | no => exact q
    | exc x m => exact q
    | ok v m1 =>
      obtain ⟨f, ρ1⟩ := v
      simp only [bnd_ok] at q
      intro H1 α1 st1 me1
      cases f with
      | next => exact fun σ1 re1 => ⟨α1, ρ1, m1, re1, me1, PostS.base q st1⟩
      | brk => exact fun σ1 re1 => q H1 α1 st1 me1 σ1 re1
      | cnt => exact fun σ1 re1 => q H1 α1 st1 me1 σ1 re1
      | ret v => exact fun x rx => q H1 α1 st1 me1 x rx
theorem noComp_sw {e : Expr} {t : Option Expr} {l : Nat} {env : PySem.Env} (h : noComp e = true) : swapsWith e t l env = pure false := by
  cases e <;> first | rfl | (cases h; done)
theorem noComp_sole {tg e : Expr} {l : Nat} {env : PySem.Env} (h : noComp e = true) : swapsWithSole [tg] e l env = pure false := noComp_sw h
theorem okS1_ex {e : E} (he : vOk e = true → OkE G n e) : OkS1 G n (.ex e) := by
  intro N sc st X W C h
  cases st <;> simp only [chkS, Bool.false_eq_true, Bool.and_eq_true] at h
  obtain ⟨⟨h0, h1⟩, h2⟩ := h
  refine PS.weak (ps_expr (he h0 N sc _ X W C.toCG h1) (noComp_sw h2)) fun D σ H ⟨α, ρ, m, re, me, q⟩ => ⟨α, ρ, m, re, me, ?_⟩
  simp only [evS] at q
  exact PostS.bnd q fun v m1 x H1 α1 st rv me1 q1 => PostS.next q1 (re.ext st.ext st.le) me1
theorem okS1_ret {e : E} (he : vOk e = true → OkE G n e) : OkS1 G n (.ret e) := by
  intro N sc st X W C h
  cases st with
  | Return v p =>
    cases v with
    | none =>
      have e1 : e = .k .non := by
        unfold chkS at h
        split at h <;> first | rfl | (simp_all; done) | skip
        all_goals simp_all
      subst e1
      exact PS.weak ps_retN fun D σ H ⟨α, ρ, m, re, me, q⟩ => q H α Stp.refl me .non (.d .non)
    | some x =>
      simp only [chkS, Bool.and_eq_true] at h
      refine PS.weak (ps_ret (he h.1 N sc _ X W C.toCG h.2)) fun D σ H ⟨α, ρ, m, re, me, q⟩ => ⟨α, ρ, m, re, me, ?_⟩
      simp only [evS] at q
      exact PostS.bnd q fun v m1 x H1 α1 st rv me1 q1 => q1 H1 α1 Stp.refl me1 x rv
  | _ => simp only [chkS, Bool.false_eq_true] at h
theorem okS1_ite {c : E} {a b : S} (hc : vOk c = true → OkT G n c) (ha : OkS G n a) (hb : OkS G n b) : OkS1 G n (.ite c a b) := by
  intro N sc st X W C h
  cases st <;> simp only [chkS, Bool.false_eq_true, Bool.and_eq_true] at h
  obtain ⟨⟨⟨h0, h1⟩, h2⟩, h3⟩ := h
  refine PS.weak (ps_if (hc h0 N sc _ X W C.toCG h1) (ha N sc _ X W C h2) (hb N sc _ X W C h3)) fun D σ H ⟨α, ρ, m, re, me, q⟩ => ⟨α, ρ, m, re, me, ?_⟩
  simp only [evS] at q
  generalize evE G.pr.con (run G.pr n) c ρ m = r at q ⊢
  cases r with
  | no => exact q
  | exc x m => exact fun C d H' α' st me hx => q C d σ H' α' st me hx
  | ok v m1 =>
    simp only [bnd_ok] at q ⊢
    unfold tstB
    cases e : truth m1 v with
    | none => rw [e] at q; exact q.elim
    | some b =>
      rw [e] at q
      intro x H1 α1 st rv me1
      subst rv
      cases x with
      | true => rw [if_pos rfl]; exact ⟨α1, ρ, m1, re.ext st.ext st.le, me1, PostS.base q st⟩
      | false => rw [if_neg Bool.false_ne_true]; exact ⟨α1, ρ, m1, re.ext st.ext st.le, me1, PostS.base q st⟩
theorem okS1_brk : OkS1 G n .brk := by
  intro N sc st X W C h
  cases st <;> simp only [chkS, Bool.false_eq_true] at h
  exact PS.weak ps_break fun D σ H ⟨α, ρ, m, re, me, q⟩ => q H α Stp.refl me σ re
theorem okS1_cnt : OkS1 G n .cnt := by
  intro N sc st X W C h
  cases st <;> simp only [chkS, Bool.false_eq_true] at h
  exact PS.weak ps_continue fun D σ H ⟨α, ρ, m, re, me, q⟩ => q H α Stp.refl me σ re
end
end Pv
namespace Pv
open PySem PySem.Spec PyProof.Rows L2
section
variable {G : Glo} {n : Nat}
theorem PostS.seq {r : R PV} {f : PV → Mem → R (Fl × Env)} {W : WX} {H : Hp} {α : Al} {D : Ends} {S : It → Hp → Prop} {σ : L2.St} (h : PostS G W (Pv.bnd r f) H α D) (hf : ∀ v m, sq v m = .no → f v m = .no)
    (k : ∀ v m' x H1 α1, Stp H α H1 α1 → GoodJ G H1 α1 x v → MemR G H1 α1 m' → PostS G W (f v m') H1 α1 D → S x H1) : Post G (GoodJ G) (Pv.bnd r sq) H α S (wE W σ) := by
  cases r with
  | no => exact h
  | exc x m => exact fun C d H' α' st me hx => h C d σ H' α' st me hx
  | ok v m =>
    simp only [bnd_ok] at h ⊢
    cases e : sq v m with
    | no => rw [hf v m e] at h; exact h.elim
    | exc x m' => cases v <;> cases e
    | ok w m' =>
      have e1 : w = v ∧ m' = m := by cases v <;> first | (cases e; exact ⟨rfl, rfl⟩) | cases e
      obtain ⟨rfl, rfl⟩ := e1
      exact fun x H1 α1 st rx me => k _ _ x H1 α1 st rx me (PostS.base (r := f w m') h st)
def fbody (G : Glo) (n : Nat) (t : Tg) (b : S) : PV → Env → Mem → R (Fl × Env) := fun x ρ m => match asg t x ρ with
  | some ρ' => evS G.pr.con (run G.pr n) b ρ' m
  | none => .no
theorem okS1_for {t : Tg} {s : E} {b : S} (hs : iOk s = true → OkI G n s) (hb : OkS G n b) : OkS1 G n (.for_ t s b) := by
  intro N sc st X W C h
  cases st with
  | For tg iter body orelse pos =>
    cases orelse with
    | cons _ _ => simp only [chkS, Bool.false_eq_true] at h
    | nil =>
      simp only [chkS, Bool.and_eq_true] at h
      obtain ⟨⟨⟨⟨h0, h1⟩, h2⟩, h3⟩, h4⟩ := h
      refine PS.weak (ps_for C.hp C.calm (hs h0 N sc iter tg X W C.toCG h1 h2) ((okG_both t C.toCG (fun x _ => C.fn x)).1 h3) (hb N sc body X W C h4) (folded_plain (chk_plain h2))) fun D σ H ⟨α, ρ, m, re, me, q⟩ => ⟨α, ρ, m, re, me, ?_⟩
      simp only [evS] at q
      refine PostS.seq q (fun v m e => by cases v <;> first | rfl | cases e) fun sv m1 J H1 α1 st gj me1 q1 => ?_
      obtain ⟨l, hl, hz, Gd, Y, wk, hGd, hY⟩ := gj
      have q1 : PostS G W (forL (fbody G n t b) l ρ m1) H1 α1 D := by
        rcases hl with rfl | rfl
        · exact q1
        · exact q1
      clear q
      refine for_it wk (fun i σ2 H2 => ∃ α2 ρ2 m2, EnvR G H2 α2 ρ2 σ2 ∧ MemR G H2 α2 m2 ∧ Stp H1 α1 H2 α2 ∧ PostS G W (forL (fbody G n t b) (l.drop i) ρ2 m2) H1 α1 D)
        ⟨α1, ρ, m1, re.ext st.ext st.le, me1, Stp.refl, q1⟩ (fun i σ2 H2 _ ⟨α2, ρ2, m2, _, _, st2, _⟩ => hGd H2 st2.ext) ?_ ?_
      · rintro i x σ2 H2 H3 hi ⟨α2, ρ2, m2, re2, me2, st2, q2⟩ y
        obtain ⟨hH, it, hit, hf⟩ := hY i H2 x H3 st2.ext hi y
        have st3 : Stp H2 α2 H3 α2 := by
          rcases hH with rfl | ⟨T, o, hT, rfl⟩
          · exact Stp.refl
          · exact Stp.laid hT
        have me3 : MemR G H3 α2 m2 := by
          rcases hH with rfl | ⟨T, o, hT, rfl⟩
          · exact me2
          · exact me2.upd hT
        have hdr : l.drop i = it :: l.drop (i + 1) := by
          obtain ⟨h1, h2⟩ := List.getElem?_eq_some_iff.mp hit
          rw [List.drop_eq_getElem_cons h1, h2]
        rw [hdr] at q2
        unfold forL at q2
        generalize hF : forL (fbody G n t b) (l.drop (i + 1)) = F at q2 ⊢
        unfold fbody at q2
        cases ea : asg t it ρ2 with
        | none => rw [ea] at q2; exact q2.elim
        | some ρ' =>
          rw [ea] at q2
          have st13 := st2.trans st3
          refine ⟨α2, ρ2, it, ρ', re2.ext st3.ext st3.le, .d hf, ea, fun σ3 re3 w3 => ⟨α2, ρ', m2, re3, me3, ?_⟩⟩
          simp only [] at q2
          generalize evS G.pr.con (run G.pr n) b ρ' m2 = r1 at q2 ⊢
          cases r1 with
          | no => exact q2.elim
          | exc xn mx => exact fun C d σ' H' α' st' me' hx => q2 C d σ' H' α' (st13.trans st') me' hx
          | ok v m4 =>
            obtain ⟨f, ρ4⟩ := v
            simp only [bnd_ok] at q2
            intro H4 α4 st4 me4
            have st14 := st13.trans st4
            cases f with
            | next => exact fun σ4 re4 => ⟨α4, ρ4, m4, re4, me4, st14, q2⟩
            | cnt => exact fun σ4 re4 => ⟨α4, ρ4, m4, re4, me4, st14, q2⟩
            | brk => exact fun σ4 re4 => q2 H4 α4 st14 me4 σ4 re4
            | ret v => exact fun x rx => q2 H4 α4 st14 me4 x rx
      · rintro σ2 H2 ⟨α2, ρ2, m2, re2, me2, st2, q2⟩
        rw [List.drop_length] at q2
        exact q2 H2 α2 st2 me2 σ2 re2
  | _ => simp only [chkS, Bool.false_eq_true] at h
theorem okS1_whl {c : E} {b : S} (hc : vOk c = true → OkT G n c) (hb : OkS G n b) : OkS1 G n (.whl c b) := by
  intro N sc st X W C h
  cases st with
  | While t body orelse pos =>
    cases orelse with
    | cons _ _ => simp only [chkS, Bool.false_eq_true] at h
    | nil =>
      simp only [chkS, Bool.and_eq_true] at h
      obtain ⟨⟨h0, h1⟩, h2⟩ := h
      refine PS.weak (ps_while C.hp (hc h0 N sc t X W C.toCG h1) (hb N sc body X W C h2)) fun D σ H ⟨α, ρ, m, re, me, q⟩ => ?_
      simp only [evS] at q
      refine ⟨fun k σ H => ∃ α ρ m, EnvR G H α ρ σ ∧ MemR G H α m ∧ PostS G W (whileL (fun ρ m => bnd (evE G.pr.con (run G.pr n) c ρ m) fun v m => tstB m v) (fun ρ m => evS G.pr.con (run G.pr n) b ρ m) k ρ m) H α D, ⟨turns, α, ρ, m, re, me, q⟩, ?_⟩
      rintro k σ1 H1 ⟨α1, ρ1, m1, re1, me1, q1⟩
      cases k with
      | zero => exact q1.elim
      | succ k =>
        unfold whileL at q1
        generalize hF : whileL (fun ρ m => bnd (evE G.pr.con (run G.pr n) c ρ m) fun v m => tstB m v) (fun ρ m => evS G.pr.con (run G.pr n) b ρ m) k = F at q1
        refine ⟨α1, ρ1, m1, re1, me1, PostS.bnd q1 fun bv m2 b' H2 α2 st2 eb me2 q2 => ?_⟩
        subst eb
        cases b' with
        | false =>
          simp only [Bool.false_eq_true, if_false] at q2 ⊢
          exact PostS.next q2 (re1.ext st2.ext st2.le) me2
        | true =>
          simp only [if_true] at q2 ⊢
          refine ⟨fun σ H => ∃ α ρ m, EnvR G H α ρ σ ∧ MemR G H α m ∧ PostS G W (F ρ m) H α D, fun σ' H' hh => ⟨k, Nat.lt_succ_self k, by rw [hF]; exact hh⟩, α2, ρ1, m2, re1.ext st2.ext st2.le, me2, ?_⟩
          generalize evS G.pr.con (run G.pr n) b ρ1 m2 = r1 at q2 ⊢
          cases r1 with
          | no => exact q2.elim
          | exc xn mx => exact q2
          | ok v m4 =>
            obtain ⟨f, ρ4⟩ := v
            simp only [bnd_ok] at q2
            intro H4 α4 st4 me4
            cases f with
            | next => exact fun σ4 re4 => ⟨α4, ρ4, m4, re4, me4, PostS.base q2 st4⟩
            | cnt => exact fun σ4 re4 => ⟨α4, ρ4, m4, re4, me4, PostS.base q2 st4⟩
            | brk => exact fun σ4 re4 => q2 H4 α4 st4 me4 σ4 re4
            | ret v => exact fun x rx => q2 H4 α4 st4 me4 x rx
  | _ => simp only [chkS, Bool.false_eq_true] at h
theorem assign_sub {o i : Expr} {pos : Pos} {env : PySem.Env} (h : plain i = true) (v : Value) : assign (.Subscript o i pos) env v = (do
      let ov ← holding [v] (eval o env)
      let iv ← holding [v, ov] (eval i env)
      standAt pos
      holding [v, ov, iv] (setItem ov iv v)
      release [v, ov, iv] []) := by
  cases i <;> first | rfl | (cases h; done)
theorem okS1_setix {o i e : E} (ho : vOk o = true → OkE G n o) (hi : vOk i = true → OkE G n i) (he : vOk e = true → OkE G n e) : OkS1 G n (.setix o i e) := by
  intro N sc st X W C h
  cases st with
  | Assign ts z pos =>
    rcases ts with _ | ⟨tg, _ | ⟨t2, ts⟩⟩
    · simp only [chkS, Bool.false_eq_true] at h
    · cases tg <;> simp only [chkS, Bool.false_eq_true, Bool.and_eq_true] at h
      obtain ⟨⟨⟨⟨⟨⟨h1, h2⟩, h3⟩, h4⟩, h5⟩, h6⟩, h7⟩ := h
      have hp := chk_plain h5
      refine PS.weak (ps_asg (he h3 N sc _ X W C.toCG h6) (pg_sub (ho h1 N sc _ X W C.toCG h4) (hi h2 N sc _ X W C.toCG h5) set_list ?_) (noComp_sole h7) rfl rfl) fun D σ H ⟨α, ρ, m, re, me, q⟩ => ⟨α, ρ, m, re, me, ?_⟩
      · exact assign_sub hp
      · simp only [evS] at q
        refine PostS.bnd q fun v m1 x H1 α1 st1 rv me1 q1 => ⟨α1, ρ, m1, re.ext st1.ext st1.le, me1, PostS.bnd q1 fun w m2 y H2 α2 st2 rw' me2 q2 => ⟨α2, ρ, m2, (re.ext st1.ext st1.le).ext st2.ext st2.le, me2, PostS.bnd q2 fun u m3 z H3 α3 st3 ru me3 q3 => ?_⟩⟩
        have rv3 := (rv.ext st2.ext st2.le).ext st3.ext st3.le
        have rw3 := rw'.ext st3.ext st3.le
        have re3 := ((re.ext st1.ext st1.le).ext st2.ext st2.le).ext st3.ext st3.le
        cases w with
        | cell k =>
          cases u with
          | int j =>
            have e1 := fz_int ru
            subst e1
            cases rw3 with
            | d f => cases f
            | cell hk =>
              cases e2 : m3[k]? with
              | none => simp only [e2] at q3; exact q3.elim
              | some l =>
                simp only [e2] at q3
                cases e3 : atI l.length j with
                | none => simp only [e3] at q3; exact q3.elim
                | some a =>
                  simp only [e3] at q3
                  obtain ⟨xs, hx, rx, hz⟩ := me3.at_ k _ l hk e2
                  have hix : L2.ixN xs.length j = some a := by rw [Paired.length rx]; exact e3
                  have st4 : Stp H3 α3 (L2.upd H3 _ (.lst (xs.set a x))) α3 := Stp.set hx (List.mem_of_getElem? hk)
                  exact ⟨_, xs, j, a, rfl, rfl, hx, hix, PostS.next (PostS.base q3 st4) (re3.ext st4.ext st4.le) (me3.set hk hx (Paired.set' rv3 a rx) (by rw [List.length_set]; exact hz))⟩
          | _ => exact q3.elim
        | _ => exact q3.elim
    · cases tg <;> simp only [chkS, Bool.false_eq_true] at h
  | _ => simp only [chkS, Bool.false_eq_true] at h
/-! ### assignments -/
def LKS (Q : L2.St → Hp → Prop) : L2.St → Hp → Prop := fun σ H => Q σ H ∨ ∃ p xs, H p = some (.lst xs) ∧ ∀ o, Q σ (L2.upd H p (.frz o (.lst xs)))
theorem PS.lk {X : Cx} {st : Stmt} {t : TS} (h : PS X st t) (hn : ∀ D D' σ H, t D σ H → D'.nx = D.nx → t D' σ H) : PS X st (fun D σ H => t { D with nx := LKS D.nx } σ H) := by
  refine ⟨fun pins s σ H D I q => thn (h.run pins s σ H _ I q) fun f s' hh => ?_⟩
  cases f with
  | next =>
    obtain ⟨σ', H', I', q | ⟨p, xs, hp, q⟩⟩ := hh
    · exact ⟨σ', H', I', q⟩
    · obtain ⟨o, I2⟩ := I'.lock hp trivial
      exact ⟨σ', _, I2, q o⟩
  | brk => exact hh
  | cont => exact hh
  | ret v => exact hh
theorem okS1_asgN {i : Nat} {e : E} (he : vOk e = true → OkE G n e) (hcomp : ∀ (mu : Bool) (own : List Nat) (t : Tg) (s c b : E), e = .comp mu own t s c b → (iOk s = true → OkI G n s) ∧ (vOk c = true → OkT G n c) ∧ (vOk b = true → OkE G n b)) : OkS1 G n (.asg (.v i) e) := by
  intro N sc st X W C h
  cases st with
  | Assign ts x pos =>
    rcases ts with _ | ⟨tg, _ | ⟨t2, ts⟩⟩
    · simp only [chkS, Bool.false_eq_true] at h
    · cases tg <;> simp only [chkS, Bool.false_eq_true, Bool.and_eq_true, decide_eq_true_eq] at h
      rename_i y py
      obtain ⟨⟨⟨h1, h2⟩, h3⟩, h4⟩ := h
      have hN : X.N.Nodup := by rw [C.nm]; exact C.nd
      have hNi : X.N[i]? = some y := by rw [C.nm]; exact h2
      have e1 : ∀ z, X.env.scope.names.lookup z = sc.names.lookup z := fun z => by rw [C.sc]
      have key : (∀ D σ H, tS G n W (.asg (.v i) e) D σ H → tAsg (tE G n W e) (gName i) D σ H) := fun D σ H ⟨α, ρ, m, re, me, q⟩ => by
        refine ⟨α, ρ, m, re, me, ?_⟩
        simp only [evS] at q
        exact PostS.bnd q fun v m1 x H1 α1 st rv me1 q1 => PostS.next q1 ((re.ext st.ext st.le).set rv i) me1
      by_cases hnc : noComp x = true
      · have hl : sc.names.lookup y = some .local ∨ sc.names.lookup y = some .cell := by
          cases x <;> first | (simpa [asgB] using h4) | (cases hnc; done)
        refine PS.weak (ps_set hN hNi ?_ (he h1 N sc _ X W C.toCG h3) (noComp_sw hnc) (.inl (C.fn y))) key
        rcases hl with hl | hl
        · exact .inl ((e1 y).trans hl)
        · exact .inr ((e1 y).trans hl)
      · have hpl := chk_plain h3
        cases x <;> try (first | (exact absurd rfl hnc) | (cases hpl; done))
        rename_i elt gens scope cpos
        simp only [asgB, Bool.or_eq_true, Bool.and_eq_true, decide_eq_true_eq, Bool.not_eq_true'] at h4
        rcases h4 with ⟨⟨k1, k2⟩, k3⟩ | k1
        · cases e <;> try (simp only [chkE, Bool.false_eq_true] at h3; done)
          · rename_i mu own t s c b
            rcases gens with _ | ⟨⟨ctg, iter, ifs, asy⟩, _ | ⟨g2, gs⟩⟩
            · simp only [chkE, Bool.false_eq_true] at h3
            · have h0 : asy = 0 := by
                unfold chkE at h3
                simp only [Bool.and_eq_true, decide_eq_true_eq] at h3
                exact h3.1.1.1.1.1.1.1
              subst h0
              obtain ⟨c1, c2, c3⟩ := hcomp mu own t s c b rfl
              simp only [vOk, Bool.and_eq_true] at h1
              obtain ⟨⟨v1, v2⟩, v3⟩ := h1
              obtain ⟨p1, p2, p3, p4, p5, p6, p7⟩ := comp_parts (c1 v1) (c2 v2) (c3 v3) C.toCG h3
              have hsw := sw_true (elt := elt) (gs := [⟨ctg, iter, ifs, 0⟩]) (scope := scope) (pos := cpos) (py := py) (y := y) (l := pos.line) (env := X.env) (by rw [C.sc]; exact C.kind) ((e1 y).trans k1) k2 k3
              refine PS.weak (PS.lk (ps_setLc C.calm hN hNi ((e1 y).trans k1) hsw p1 p2 p3 p4 p5 p6) ?_) fun D σ H hq => ?_
              · intro D D' σ H hh e2
                show tLc _ _ _ _ _ σ H (fun x H1 => D'.nx (σ.set i (some x)) H1)
                rw [e2]
                exact hh
              · have q2 := p7 σ H (fun x H1 => D.nx (σ.set i (some x)) H1) (key D σ H hq)
                have em : ∀ {Q Q' : VK}, (∀ x H, Q x H → Q' x H) → tLc (tI G n W s) (tG G t) (tT G n (fun _ _ _ _ => False) c) (tE G n (fun _ _ _ _ => False) b) ((ownOf N own).map (·.2)) σ H Q → tLc (tI G n W s) (tG G t) (tT G n (fun _ _ _ _ => False) c) (tE G n (fun _ _ _ _ => False) b) ((ownOf N own).map (·.2)) σ H Q' := by
                  rintro Q Q' hQ ⟨α, ρ, m, re, me, q⟩
                  refine ⟨α, ρ, m, re, me, q.mono fun J H1 hd D hD => ?_⟩
                  obtain ⟨W0, h0, h1⟩ := hd D hD
                  refine ⟨W0, h0, fun i m H hw => ?_⟩
                  rcases h1 i m H hw with ⟨a1, a2⟩ | a
                  · exact .inl ⟨a1, hQ _ _ a2⟩
                  · exact .inr a
                refine em (fun x H1 hx => ?_) q2
                rcases hx with hx | ⟨p, xs, rfl, hp, hx⟩
                · exact .inl hx
                · exact .inr ⟨p, xs, hp, hx⟩
            · simp only [chkE, Bool.false_eq_true] at h3
        · have hsw : swapsWith (.ListComp elt gens scope cpos) (some (.Name y py)) pos.line X.env = pure false := by
            have ky : X.env.kindOf y = some .cell := (e1 y).trans k1
            unfold swapsWith
            simp only [ky]
            show (pure _ : Sem Bool) = pure false
            congr 1
            simp
          exact PS.weak (ps_set hN hNi (.inr ((e1 y).trans k1)) (he h1 N sc _ X W C.toCG h3) hsw (.inl (C.fn y))) key
    · cases tg <;> simp only [chkS, Bool.false_eq_true] at h
  | _ => simp only [chkS, Bool.false_eq_true] at h
end
end Pv
namespace Pv
open PySem PySem.Spec PyProof.Rows L2
theorem star_no {e : Expr} (h : plain e = true) : (match e with | .Starred .. => true | _ => false) = false := by
  cases e <;> first | rfl | (cases h; done)
theorem star_any {es : List Expr} (h : ∀ e ∈ es, plain e = true) : (es.any fun | .Starred .. => true | _ => false) = false := by
  induction es with
  | nil => rfl
  | cons e es ih =>
    rw [List.any_cons, ih fun x hx => h x (by simp [hx])]
    have := star_no (h e (by simp))
    cases e <;> first | rfl | (cases this; done)
theorem sw_none1 {ts es : List Expr} {k1 k2} {p1 p2 : Pos} {env : PySem.Env} (hp : ∀ e ∈ es, plain e = true) (h : (!(ts.length == 2 || ts.length == 3) || es.length != ts.length || es.all (foldedForSure 8)) = true) :
    swappedStores [.Tuple ts k1 p1] (.Tuple es k2 p2) env = pure none := by
  unfold swappedStores
  simp only [star_any hp]
  by_cases h1 : (!(ts.length == 2 || ts.length == 3) || es.length != ts.length || env.blockKind != .function) = true
  · rw [if_pos h1]
  · rw [if_neg h1]
    have h2 : es.all (foldedForSure 8) = true := by
      simp only [Bool.or_eq_true] at h h1
      rcases h with (h | h) | h
      · exact absurd (.inl (.inl h)) h1
      · exact absurd (.inl (.inr h)) h1
      · exact h
    simp only [h2]
    simp
theorem sw_two {x y : Str} {px py p1 p2 : Pos} {a b : Expr} {k1 k2} {env : PySem.Env} (hk : env.scope.kind = .function) (hx : env.scope.names.lookup x = some .local) (hy : env.scope.names.lookup y = some .local) (hxy : x ≠ y) (hl : py.line = px.line)
    (hp : ∀ e ∈ [a, b], plain e = true) (h1 : ([a, b].all (foldedForSure 8)) = false) (h2 : ([a, b].all (constantsAlone 8)) = false) :
    swappedStores [.Tuple [.Name x px, .Name y py] k1 p1] (.Tuple [a, b] k2 p2) env = pure (some [x, y]) := by
  have hb : env.blockKind = .function := by unfold Env.blockKind; rw [hk]; rfl
  have kx : env.kindOf x = some .local := hx
  have ky : env.kindOf y = some .local := hy
  unfold swappedStores
  simp only [star_any hp, h1, h2, hb]
  have e1 : (y == x) = false := by simp [Ne.symm hxy]
  have e2 : (x == y) = false := by simp [hxy]
  simp [kx, ky, hl, Expr.pos, e1, e2, List.eraseDups_cons]
  intro h
  exfalso
  rcases h with h | h
  · have := hp a (by simp)
    cases a <;> first | (cases h; done) | (cases this; done)
  · have := hp b (by simp)
    cases b <;> first | (cases h; done) | (cases this; done)
theorem sw_three {x y z : Str} {px py pz p1 p2 : Pos} {a b c : Expr} {k1 k2} {env : PySem.Env} (hk : env.scope.kind = .function) (hx : env.scope.names.lookup x = some .local) (hy : env.scope.names.lookup y = some .local) (hz : env.scope.names.lookup z = some .local) (hxy : x ≠ y) (hxz : x ≠ z) (hyz : y ≠ z) (hl : py.line = px.line) (hl2 : pz.line = px.line)
    (hp : ∀ e ∈ [a, b, c], plain e = true) (h1 : ([a, b, c].all (foldedForSure 8)) = false) (h2 : ([a, b, c].all (constantsAlone 8)) = false) :
    swappedStores [.Tuple [.Name x px, .Name y py, .Name z pz] k1 p1] (.Tuple [a, b, c] k2 p2) env = pure (some [x, y, z]) := by
  have hb : env.blockKind = .function := by unfold Env.blockKind; rw [hk]; rfl
  have kx : env.kindOf x = some .local := hx
  have ky : env.kindOf y = some .local := hy
  have kz : env.kindOf z = some .local := hz
  unfold swappedStores
  simp only [star_any hp, h1, h2, hb]
  have e1 : (y == x) = false := by simp [Ne.symm hxy]
  have e2 : (z == x) = false := by simp [Ne.symm hxz]
  have e3 : (z == y) = false := by simp [Ne.symm hyz]
  simp [kx, ky, kz, hl, hl2, Expr.pos, e1, e2, e3, List.eraseDups_cons]
  intro h
  exfalso
  rcases h with h | h | h
  · have := hp a (by simp)
    cases a <;> first | (cases h; done) | (cases this; done)
  · have := hp b (by simp)
    cases b <;> first | (cases h; done) | (cases this; done)
  · have := hp c (by simp)
    cases c <;> first | (cases h; done) | (cases this; done)
section
variable {G : Glo} {n : Nat}
theorem asg_t {T : Tg} {v : PV} {ρ ρ' : Env} (h : asg (.t T) v ρ = some ρ') : ∃ l, v = .tup l ∧ asg T (.tup l) ρ = some ρ' := by
  cases v with
  | tup l => exact ⟨l, rfl, h⟩
  | _ => cases h
theorem asg_two {i j : Nat} {v : PV} {ρ ρ' : Env} (h : asg (.t (.cons (.v i) (.cons (.v j) .nil))) v ρ = some ρ') : ∃ a b, v = .tup [a, b] ∧ ρ' = (ρ.set i (some a)).set j (some b) := by
  obtain ⟨l, rfl, h⟩ := asg_t h
  rcases l with _ | ⟨a, _ | ⟨b, _ | ⟨c, l⟩⟩⟩
  · cases h
  · cases h
  · cases h; exact ⟨a, b, rfl, rfl⟩
  · cases h
theorem asg_three {i j k : Nat} {v : PV} {ρ ρ' : Env} (h : asg (.t (.cons (.v i) (.cons (.v j) (.cons (.v k) .nil)))) v ρ = some ρ') : ∃ a b c, v = .tup [a, b, c] ∧ ρ' = ((ρ.set i (some a)).set j (some b)).set k (some c) := by
  obtain ⟨l, rfl, h⟩ := asg_t h
  rcases l with _ | ⟨a, _ | ⟨b, _ | ⟨c, _ | ⟨d, l⟩⟩⟩⟩
  · cases h
  · cases h
  · cases h
  · cases h; exact ⟨a, b, c, rfl, rfl⟩
  · cases h
theorem okS1_asgT {l : Tg} {e : E} (he : vOk e = true → OkE G n e) : OkS1 G n (.asg (.t l) e) := by
  intro N sc st X W C h
  cases st with
  | Assign ts x pos =>
    rcases ts with _ | ⟨tg, _ | ⟨t2, ts⟩⟩
    · simp only [chkS, Bool.false_eq_true] at h
    · cases tg <;> simp only [chkS, Bool.false_eq_true, Bool.and_eq_true] at h
      obtain ⟨⟨⟨⟨h1, h2⟩, h3⟩, h4⟩, h5⟩ := h
      refine PS.weak (ps_asg (he h1 N sc _ X W C.toCG h3) ((okG_both (.t l) C.toCG (fun x _ => C.fn x)).1 (e := .Tuple _ _ _) h2) (noComp_sole h5) (by cases x <;> first | rfl | (cases h4; done)) rfl) fun D σ H ⟨α, ρ, m, re, me, q⟩ => ⟨α, ρ, m, re, me, ?_⟩
      simp only [evS] at q
      refine PostS.bnd q fun v m1 x H1 α1 st rv me1 q1 => ?_
      cases ea : asg (.t l) v ρ with
      | none => rw [ea] at q1; exact q1.elim
      | some ρ' =>
        rw [ea] at q1
        exact ⟨α1, ρ, v, ρ', re.ext st.ext st.le, rv, ea, fun σ' re' _ => PostS.next q1 re' me1⟩
    · cases tg <;> simp only [chkS, Bool.false_eq_true] at h
  | _ => simp only [chkS, Bool.false_eq_true] at h
theorem okS1_asg {t : Tg} {e : E} (he : vOk e = true → OkE G n e) (hcomp : ∀ (mu : Bool) (own : List Nat) (t : Tg) (s c b : E), e = .comp mu own t s c b → (iOk s = true → OkI G n s) ∧ (vOk c = true → OkT G n c) ∧ (vOk b = true → OkE G n b)) : OkS1 G n (.asg t e) := by
  cases t with
  | v i => exact okS1_asgN he hcomp
  | t l => exact okS1_asgT he
  | nil => intro N sc st X W C h; cases st <;> simp only [chkS, Bool.false_eq_true] at h
  | cons a l => intro N sc st X W C h; cases st <;> simp only [chkS, Bool.false_eq_true] at h
theorem okS1_parG {tl : Tg} {l : E} (hl : OkL G n l) {N : List Str} {sc : Scope} {ts es : List Expr} {k1 k2} {p1 p2 pos : Pos} {X : Cx} {W : WX} (C : CF G n N sc W X) (h1 : chkL G.nms N l sc es = true) (h2 : chkTs N (fun _ => true) sc tl ts = true) (h3 : ts.length ≤ 1000)
    (h4 : (!(ts.length == 2 || ts.length == 3) || es.length != ts.length || es.all (foldedForSure 8)) = true) : PS X (.Assign [.Tuple ts k1 p1] (.Tuple es k2 p2) pos) (tS G n W (.par (.t tl) l)) := by
  obtain ⟨l1, l2⟩ := chkTs_len (env := X.env) h2
  refine PS.weak (ps_asg (pe_tup (hl N sc es X W C.toCG h1)) (pg_tup C.calm ((okG_both tl C.toCG (fun x _ => C.fn x)).2 h2) l1 l2) rfl (sw_none1 (chkL_plain h1) h4) rfl) fun D σ H ⟨α, ρ, m, re, me, q⟩ => ⟨α, ρ, m, re, me, ?_⟩
  simp only [evS] at q
  refine PostS.bnd q fun v m1 xs H1 α1 st rv me1 q1 => ?_
  cases ea : asg (.t tl) v ρ with
  | none => rw [ea] at q1; exact q1.elim
  | some ρ' =>
    rw [ea] at q1
    obtain ⟨vs, rfl, ea2⟩ := asg_t ea
    have hlen : xs.length = ts.length := by rw [Paired.length rv]; exact chkTs_vals h2 ea2
    refine ⟨by rw [hlen]; exact small_size h3, fun p hp => ⟨p, xs, rfl, SqT.of upd_same, hlen, α1, ρ, vs, ρ', (re.ext st.ext st.le).ext (Ext.new hp) Le.refl, rv.ext (Ext.new hp) Le.refl, ea2, fun σ' re' _ => PostS.next (PostS.base q1 (Stp.laid hp)) re' (me1.upd hp)⟩⟩
theorem okS1_par {t : Tg} {l : E} (hl : vOk l = true → OkL G n l) : OkS1 G n (.par t l) := by
  intro N sc st X W C h
  cases st with
  | Assign ts x pos =>
    rcases ts with _ | ⟨tg, _ | ⟨t2, ts⟩⟩
    · simp only [chkS, Bool.false_eq_true] at h
    · cases tg <;> try (simp only [chkS, Bool.false_eq_true] at h; done)
      rename_i ts k1 p1
      cases x <;> simp only [chkS, Bool.false_eq_true, Bool.and_eq_true] at h
      rename_i es k2 p2
      obtain ⟨⟨h1, h2⟩, h3⟩ := h
      have hN : X.N.Nodup := by rw [C.nm]; exact C.nd
      have e1 : ∀ z, X.env.scope.names.lookup z = sc.names.lookup z := fun z => by rw [C.sc]
      unfold parB at h3
      split at h3
      · rename_i i j x px y py
        simp only [Bool.and_eq_true, decide_eq_true_eq, Bool.not_eq_true'] at h3
        obtain ⟨⟨⟨⟨⟨⟨⟨⟨⟨a1, a2⟩, a3⟩, a4⟩, a5⟩, a6⟩, a7⟩, a8⟩, a9⟩, a10⟩ := h3
        rcases es with _ | ⟨ea, _ | ⟨eb, _ | ⟨ec, es⟩⟩⟩ <;> try (cases a8; done)
        · refine PS.weak (ps_par C.calm hN (by rw [C.nm]; exact a1) (by rw [C.nm]; exact a2) a5 ((e1 x).trans a3) ((e1 y).trans a4) (hl h1 N sc _ X W C.toCG h2) (sw_two (by rw [C.sc]; exact C.kind) ((e1 x).trans a3) ((e1 y).trans a4) a6 a7 (chkL_plain h2) a9 a10) rfl) fun D σ H ⟨α, ρ, m, re, me, q⟩ => ⟨α, ρ, m, re, me, ?_⟩
          simp only [evS] at q
          refine PostS.bnd q fun v m1 xs H1 α1 st rv me1 q1 => ?_
          cases ev : asg (.t (.cons (.v i) (.cons (.v j) .nil))) v ρ with
          | none => rw [ev] at q1; exact q1.elim
          | some ρ' =>
            rw [ev] at q1
            obtain ⟨va, vb, rfl, rfl⟩ := asg_two ev
            cases rv with
            | cons r1 r2 =>
              cases r2 with
              | cons r2 r3 =>
                cases r3
                exact ⟨_, _, rfl, PostS.next q1 (((re.ext st.ext st.le).set r1 i).set r2 j) me1⟩
      · rename_i i j k x px y py z pz
        simp only [Bool.and_eq_true, decide_eq_true_eq, Bool.not_eq_true'] at h3
        obtain ⟨⟨⟨⟨⟨⟨⟨⟨⟨⟨⟨⟨⟨⟨⟨⟨a1, a2⟩, a3⟩, b1⟩, b2⟩, b3⟩, c1⟩, c2⟩, c3⟩, d1⟩, d2⟩, d3⟩, l1⟩, l2⟩, a8⟩, a9⟩, a10⟩ := h3
        rcases es with _ | ⟨ea, _ | ⟨eb, _ | ⟨ec, _ | ⟨ed, es⟩⟩⟩⟩ <;> try (cases a8; done)
        · refine PS.weak (ps_par3 C.calm hN (by rw [C.nm]; exact a1) (by rw [C.nm]; exact a2) (by rw [C.nm]; exact a3) c1 c2 c3 ((e1 x).trans b1) ((e1 y).trans b2) ((e1 z).trans b3) (hl h1 N sc _ X W C.toCG h2) (sw_three (by rw [C.sc]; exact C.kind) ((e1 x).trans b1) ((e1 y).trans b2) ((e1 z).trans b3) d1 d2 d3 l1 l2 (chkL_plain h2) a9 a10) rfl) fun D σ H ⟨α, ρ, m, re, me, q⟩ => ⟨α, ρ, m, re, me, ?_⟩
          simp only [evS] at q
          refine PostS.bnd q fun v m1 xs H1 α1 st rv me1 q1 => ?_
          cases ev : asg (.t (.cons (.v i) (.cons (.v j) (.cons (.v k) .nil)))) v ρ with
          | none => rw [ev] at q1; exact q1.elim
          | some ρ' =>
            rw [ev] at q1
            obtain ⟨va, vb, vc, rfl, rfl⟩ := asg_three ev
            cases rv with
            | cons r1 r2 =>
              cases r2 with
              | cons r2 r3 =>
                cases r3 with
                | cons r3 r4 =>
                  cases r4
                  exact ⟨_, _, _, rfl, PostS.next q1 ((((re.ext st.ext st.le).set r1 i).set r2 j).set r3 k) me1⟩
      · simp only [Bool.and_eq_true, decide_eq_true_eq] at h3
        exact okS1_parG (hl h1) C h2 h3.1.1 h3.1.2 h3.2
      · cases h3
    · cases tg <;> simp only [chkS, Bool.false_eq_true] at h
  | _ => simp only [chkS, Bool.false_eq_true] at h
/-! ### all statements -/
theorem chkS_one {nm : Nm} {N : List Str} {sc : Scope} {sts : List Stmt} : ∀ c : S, isSeq c = false → c ≠ .skip → chkS nm N c sc sts = true → ∃ st, sts = [st] := by
  intro c h1 h2 h
  rcases sts with _ | ⟨st, _ | ⟨s2, r⟩⟩
  · cases c <;> first | (exact absurd rfl h2) | (cases h1; done) | (simp [chkS] at h; done) | (rename_i t _; cases t <;> simp [chkS] at h; done)
  · exact ⟨st, rfl⟩
  · cases c <;> first | (exact absurd rfl h2) | (cases h1; done) | (simp [chkS] at h; done) | (rename_i t _; cases t <;> simp [chkS] at h; done)
theorem okS_both {c : S} (h : OkS1 G n c) (h1 : isSeq c = false) (h2 : c ≠ .skip) : OkS G n c ∧ (isSeq c = false → OkS1 G n c) :=
  ⟨okS_one h fun N sc sts hk => chkS_one c h1 h2 hk, fun _ => h⟩
theorem okS_all (hG : GOk G) (hF : FnsOk G n) : ∀ c : S, OkS G n c ∧ (isSeq c = false → OkS1 G n c) := by
  have E1 : ∀ e : E, vOk e = true → OkE G n e := fun e h => ((ok_all hG hF e).1 h).e
  have T1 : ∀ e : E, vOk e = true → OkT G n e := fun e h => ((ok_all hG hF e).1 h).t
  have L1 : ∀ e : E, vOk e = true → OkL G n e := fun e h => ((ok_all hG hF e).1 h).l
  have I1 : ∀ e : E, iOk e = true → OkI G n e := fun e h => (ok_all hG hF e).2 h
  intro c
  induction c with
  | skip => exact ⟨okS_skip, fun _ => okS1_skip⟩
  | seq a b iha ihb =>
    refine ⟨fun N sc sts X W C h => ?_, fun h => by cases h⟩
    by_cases hs : isSeq a = true
    · exfalso
      cases sts with
      | nil => simp only [chkS, Bool.false_eq_true] at h
      | cons st rest => simp only [chkS, hs, Bool.not_true, Bool.false_and, Bool.false_eq_true] at h
    · exact okS_seq (iha.2 (by simpa using hs)) ihb.1 N sc sts X W C h
  | ex e => exact okS_both (okS1_ex (E1 e)) rfl (by simp)
  | ret e => exact okS_both (okS1_ret (E1 e)) rfl (by simp)
  | asg t e => exact okS_both (okS1_asg (E1 e) fun mu own t s c b _ => ⟨I1 s, T1 c, E1 b⟩) rfl (by simp)
  | par t l => exact okS_both (okS1_par (L1 l)) rfl (by simp)
  | setix o i e => exact okS_both (okS1_setix (E1 o) (E1 i) (E1 e)) rfl (by simp)
  | ite c a b iha ihb => exact okS_both (okS1_ite (T1 c) iha.1 ihb.1) rfl (by simp)
  | for_ t s b ihb => exact okS_both (okS1_for (I1 s) ihb.1) rfl (by simp)
  | whl c b ihb => exact okS_both (okS1_whl (T1 c) ihb.1) rfl (by simp)
  | brk => exact okS_both okS1_brk rfl (by simp)
  | cnt => exact okS_both okS1_cnt rfl (by simp)
  | raise c =>
    refine ⟨fun N sc sts X W C h => ?_, fun _ N sc st X W C h => ?_⟩
    · rcases sts with _ | ⟨st, _ | ⟨s2, r⟩⟩ <;> first | (simp only [chkS, Bool.false_eq_true] at h; done) | (cases st <;> simp only [chkS, Bool.false_eq_true] at h; done)
    · cases st <;> simp only [chkS, Bool.false_eq_true] at h
end
end Pv
namespace Pv
open PySem PySem.Spec PyProof.Rows L2
/-! ## Defs -/
theorem zip_some {ps : List Str} : ∀ {us : List Value}, us.length = ps.length → ∀ n ∈ ps, ((ps.zip us).lookup n).isNone = false := by
  induction ps with
  | nil => intro us _ n h; simp at h
  | cons p ps ih =>
    intro us hl n hn
    cases us with
    | nil => cases hl
    | cons u us =>
      rw [List.zip_cons_cons, List.lookup_cons]
      cases e : n == p with
      | true => rfl
      | false =>
        rcases List.mem_cons.mp hn with rfl | hn
        · simp at e
        · exact ih (by simpa using hl) n hn
theorem zip_map {qs : List (Str × Value)} : ∀ {ps : List Str} {us : List Value}, us.length = ps.length → ps.Nodup → (∀ p ∈ ps, qs.lookup p = (ps.zip us).lookup p) → (ps.filterMap fun n => (qs.lookup n).map fun x => (n, x)) = ps.zip us := by
  intro ps
  induction ps with
  | nil => intro us _ _ _; rfl
  | cons p ps ih =>
    intro us hl hn hq
    cases us with
    | nil => cases hl
    | cons u us =>
      rw [List.nodup_cons] at hn
      have h1 : qs.lookup p = some u := by rw [hq p (by simp), List.zip_cons_cons, List.lookup_cons]; simp
      rw [List.filterMap_cons, h1]
      show (p, u) :: _ = _
      rw [ih (by simpa using hl) hn.2 fun x hx => ?_]
      · rfl
      · rw [hq x (by simp [hx]), List.zip_cons_cons, List.lookup_cons]
        have : (x == p) = false := by simp; rintro rfl; exact hn.1 hx
        rw [this]
theorem bind_gen {x qual : Str} {as : List Arg} {body : List Stmt} {scope : Scope} {kV doc pm : Value} {an : Option Addr} {cdv ct : Value} {us : List Value} (nd : (as.map (·.arg)).Nodup) (hl : us.length = (as.map (·.arg)).length) :
    bindArgs (PySem.W.fnOf x qual ⟨[], as, none, [], [], none, []⟩ body scope .none kV doc pm an cdv ct) ⟨us, []⟩ = pure ((as.map (·.arg)).zip us) := by
  generalize hps : as.map (·.arg) = ps at nd hl
  have e1 : (ps.filter fun n => ((ps.zip us).lookup n).isNone) = [] := by
    rw [List.filter_eq_nil_iff]
    intro n hn
    rw [zip_some hl n hn]; simp
  have e2 : (ps.filterMap fun n => ((ps.zip us).lookup n).map fun x => (n, x)) = ps.zip us := zip_map hl nd fun _ _ => rfl
  have e3 : ¬ (us.length > ps.length) := by omega
  unfold bindArgs
  simp only [PySem.W.fnOf, List.map_nil, List.nil_append, hps, List.append_nil]
  have es : seqItems? Value.none = pure none := rfl
  simp [es, hl, e1, e2]
structure Df where
  st : Stmt
  N : List Str
def stripD : List Stmt → List Stmt
  | .Expr (.Constant (.str _) _ _) _ :: r => r
  | l => l
def argsOf : Arguments → Option (List Arg)
  | ⟨[], as, none, [], [], none, []⟩ => some as
  | _ => none
theorem argsOf_eq {a : Arguments} {as : List Arg} (h : argsOf a = some as) : a = ⟨[], as, none, [], [], none, []⟩ := by
  unfold argsOf at h
  split at h
  · cases h; rfl
  · cases h
def dfB (nm : Nm) (F : Fn) (d : Df) : Bool := match argsOf (defArgs d.st) with
  | some as => decide ((as.map (·.arg)).length = F.np) && decide (d.N.length = F.nl) && decide d.N.Nodup && decide (d.N.take (as.map (·.arg)).length = as.map (·.arg)) && decide (as.map (·.arg)).Nodup &&
    decide ((defScope d.st).kind = .function) && !(defScope d.st).isCoroutine && !(defScope d.st).isGenerator && (as.map (·.arg)).all (fun x => decide ((defScope d.st).names.lookup x = some .local) || decide ((defScope d.st).names.lookup x = some .cell)) &&
    (defScope d.st).names.all (fun y => decide (y.2 ≠ .free)) && chkS nm d.N F.body (defScope d.st) (stripD (defBody d.st))
  | none => false
structure HasDef (G : Glo) (i : Nat) (a : Addr) (F : Fn) (d : Df) (fd : FuncData) : Prop where
  f : G.pr.fns[i]? = some F
  fun_ : ∃ x qual, FunD G.K x qual (defArgs d.st) (defBody d.st) (defScope d.st) [] [] a fd
  chk : dfB G.nms F d = true
section
variable {G : Glo} {n : Nat}
theorem HasDef.parts {i : Nat} {a : Addr} {F : Fn} {d : Df} {fd : FuncData} (h : HasDef G i a F d fd) : ∃ ps : List Str, (∃ as, argsOf (defArgs d.st) = some as ∧ ps = as.map (·.arg)) ∧ ps.length = F.np ∧ d.N.length = F.nl ∧ FnScope d.N ps (defScope d.st) ∧ chkS G.nms d.N F.body (defScope d.st) (stripD (defBody d.st)) = true ∧ Binds G.K fd ps [] ∧ PySem.W.keepIn G.K (.ref a) = true := by
  obtain ⟨x, qual, hf⟩ := h.fun_
  have hc := h.chk
  unfold dfB at hc
  cases e : argsOf (defArgs d.st) with
  | none => rw [e] at hc; cases hc
  | some as =>
    rw [e] at hc
    simp only [Bool.and_eq_true, decide_eq_true_eq, Bool.not_eq_true'] at hc
    obtain ⟨⟨⟨⟨⟨⟨⟨⟨⟨⟨h1, h2⟩, h3⟩, h4⟩, h5⟩, h6⟩, h7⟩, h8⟩, h9⟩, h10⟩, h11⟩ := hc
    refine ⟨as.map (·.arg), ⟨as, rfl, rfl⟩, h1, h2, ⟨h6, h7, h8, h3, h4, fun x hx => ?_, fun y hy => ?_⟩, h11, ?_, hf.kp⟩
    · have := List.all_eq_true.mp h9 x hx
      simpa using this
    · have := List.all_eq_true.mp h10 y hy
      simpa using this
    · rw [argsOf_eq e] at hf
      exact hf.bindsN fun kV doc pm an cdv ct us hl => bind_gen h5 hl
theorem env_start {H : Hp} {α : Al} {vs : List V} {l : List PV} (r : RpAll G H α vs l) (k : Nat) : EnvR G H α (l.map some ++ List.replicate k none) (vs.map some ++ List.replicate k none) := by
  refine ⟨by simp [Paired.length r], fun i v h => ?_⟩
  by_cases hi : i < l.length
  · rw [List.getElem?_append_left (by simpa using hi), List.getElem?_map] at h
    have hg : l[i]? = some v := by
      cases e : l[i]? with
      | none => rw [e] at h; cases h
      | some u => rw [e] at h; simpa using h
    obtain ⟨x, hx, rx⟩ := Paired.get' r hg
    exact ⟨x, by rw [List.getElem?_append_left (by rw [List.length_map, Paired.length r]; exact hi), List.getElem?_map, hx]; rfl, rx⟩
  · rw [List.getElem?_append_right (by simpa using hi), List.getElem?_replicate] at h
    split at h <;> cases h
theorem fns_zero (hd : ∀ (i : Nat) (a : Addr), G.fa[i]? = some a → ∃ F d fd, HasDef G i a F d fd) : FnsOk G 0 := by
  intro i a ha
  obtain ⟨F, d, fd, h⟩ := hd i a ha
  obtain ⟨ps, _, h1, h2, h3, h4, h5, h6⟩ := h.parts
  refine ⟨F, fd, ps, h.f, h1, ⟨fun vs H Q E q => by rw [h1]; exact q.1, fun A outer s H args us vs Q E hr he hb hv q => ?_⟩, h5, h6⟩
  obtain ⟨_, α, m, l, _, _, q⟩ := q
  exact q.elim
theorem def_ok (hG : GOk G) (hF : FnsOk G n) {i : Nat} {a : Addr} {F : Fn} {d : Df} {fd : FuncData} (h : HasDef G i a F d fd) {ps : List Str} (h1 : ps.length = F.np) (h2 : d.N.length = F.nl) (h3 : FnScope d.N ps (defScope d.st)) (h4 : chkS G.nms d.N F.body (defScope d.st) (stripD (defBody d.st)) = true) :
    FnOk G.P G.w G.K G.mg G.base (L2.CX G.P G.w) (n + 1 + 5) a fd ps (spF G (n + 1) i F.np) := by
  obtain ⟨x, qual, hf⟩ := h.fun_
  show FnOk G.P G.w G.K G.mg G.base (L2.CX G.P G.w) ((n + 5) + 1) a fd ps (spF G (n + 1) i F.np)
  refine hf.ok h3 (fun vs H Q E q => by rw [h1]; exact q.1) (fun cdv A outer s H vs Q E hr q => ?_)
  obtain ⟨hl, α, m, l, ra, me, q⟩ := q
  have C : CF G n d.N (defScope d.st) (fun C d _ H => E C d H) (cxOf (L2.CX G.P G.w) G.P G.w G.K G.mg G.base d.N qual (defScope d.st) a cdv A outer s H E) :=
    ⟨⟨rfl, rfl, rfl, rfl, rfl, rfl, h3.nd, h3.kind, rfl, hr, rfl, takes_of rfl rfl rfl rfl, passes_of rfl⟩, fun _ => rfl⟩
  have body := (okS_all hG hF F.body).1 d.N (defScope d.st) _ _ _ C h4
  have key : tS G n (fun C d _ H => E C d H) F.body { nx := fun _ H' => Q .non H', rt := Q } (L2.start d.N vs) H := by
    have e1 : L2.start d.N vs = vs.map some ++ List.replicate (F.nl - F.np) none := by
      unfold L2.start
      rw [hl, h2]
    rw [e1]
    refine ⟨α, l.map some ++ List.replicate (F.nl - F.np) none, m, env_start ra _, me, ?_⟩
    unfold run at q
    rw [h.f] at q
    have hl2 : l.length = F.np := by rw [← Paired.length ra]; exact hl
    simp only [if_pos hl2] at q
    generalize evS G.pr.con (run G.pr n) F.body (l.map some ++ List.replicate (F.nl - F.np) none) m = r at q ⊢
    cases r with
    | no => exact q
    | exc xn m1 => exact fun C d σ' H' α' st me' hx => q C d H' α' st me' hx
    | ok v m1 =>
      obtain ⟨f, ρ⟩ := v
      intro H' α' st me'
      cases f with
      | next => exact fun σ' _ => q .non H' α' st (.d .non) me'
      | ret v => exact fun x rx => q x H' α' st rx me'
      | brk => exact q.elim
      | cnt => exact q.elim
  unfold stripD at body
  split at body
  · rename_i e
    rw [e]
    exact ⟨_, pss_cons ps_doc body, key⟩
  · exact ⟨_, body, key⟩
theorem fns_step (hG : GOk G) (hF : FnsOk G n) (hd : ∀ (i : Nat) (a : Addr), G.fa[i]? = some a → ∃ F d fd, HasDef G i a F d fd) : FnsOk G (n + 1) := by
  intro i a ha
  obtain ⟨F, d, fd, h⟩ := hd i a ha
  obtain ⟨ps, _, h1, h2, h3, h4, h5, h6⟩ := h.parts
  exact ⟨F, fd, ps, h.f, h1, def_ok hG hF h h1 h2 h3 h4, h5, h6⟩
theorem fns_all (hG : GOk G) (hd : ∀ (i : Nat) (a : Addr), G.fa[i]? = some a → ∃ F d fd, HasDef G i a F d fd) : ∀ n, FnsOk G n
  | 0 => fns_zero hd
  | n + 1 => fns_step hG (fns_all hG hd n) hd
end
end Pv
namespace Pv
open PySem PySem.Spec PyProof.Rows L2
/-! ## The head -/
/-! ### a part of the heap that has no list -/
def isLst : Obj → Bool
  | ⟨.type c, _, _, _⟩ => decide (c = "list")
  | _ => false
theorem isLst_of {o : Obj} (h : o.cls = .type "list") : isLst o = true := by
  obtain ⟨c, d, t, s⟩ := o
  cases h
  rfl
def frN (g : Addr → Option Obj) (as : List Addr) : PySem.W.Frag := (He.frG g as).filter fun q => !isLst q.2
def NoL (K : PySem.W.Frag) : Prop := ∀ a o, K.lookup a = some o → isLst o = false
theorem frN_mem {g : Addr → Option Obj} {as : List Addr} {a : Addr} {o : Obj} (h : (frN g as).lookup a = some o) : g a = some o ∧ isLst o = false := by
  obtain ⟨h1, h2⟩ := List.mem_filter.mp (He.lookup_mem h)
  exact ⟨He.frG_mem h1, by simpa using h2⟩
theorem frN_in {as : List Addr} {h : Heap} : (frN h.get? as).In h := fun _ _ e => (frN_mem e).1
theorem frN_no {g : Addr → Option Obj} {as : List Addr} : NoL (frN g as) := fun _ _ e => (frN_mem e).2
/-! ### constants -/
mutual
def conB (K : PySem.W.Frag) : PV → Value → Bool
  | .non, .none => true
  | .bl b, .bool c => b == c
  | .int i, .int j _ => decide (i = j)
  | .str s, .str x _ => decide (x = ⟨s.toArray⟩) && PyData.strOk ⟨s.toArray⟩ && decide (s.length ≤ 1000)
  | .tup l, .ref a => (match K.lookup a with
    | some ⟨.type c, _, .seq its _, _⟩ => decide (c = "tuple") && decide (its.size ≤ 1000) && conAll K l its.toList
    | _ => false)
  | _, _ => false
def conAll (K : PySem.W.Frag) : List PV → List Value → Bool
  | [], [] => true
  | v :: l, u :: us => conB K v u && conAll K l us
  | _, _ => false
end
mutual
theorem conB_ok {K : PySem.W.Frag} : ∀ {v : PV} {u : Value}, conB K v u = true → ∃ y, RelV y u ∧ ∀ H, Fz K H y v
  | .non, u, h => by
    cases u <;> first | (simp only [conB, Bool.false_eq_true] at h; done) | exact ⟨.non, rfl, fun _ => .non⟩
  | .bl b, u, h => by
    cases u <;> simp only [conB, Bool.false_eq_true] at h
    have e := beq_iff_eq.mp h
    subst e
    exact ⟨.bl b, rfl, fun _ => .bl b⟩
  | .int i, u, h => by
    cases u <;> simp only [conB, Bool.false_eq_true] at h
    have e := of_decide_eq_true h
    subst e
    exact ⟨.int i, ⟨_, rfl⟩, fun _ => .int i⟩
  | .str s, u, h => by
    cases u <;> simp only [conB, Bool.false_eq_true, Bool.and_eq_true, decide_eq_true_eq] at h
    obtain ⟨⟨h1, h2⟩, h3⟩ := h
    subst h1
    exact ⟨.str _, ⟨_, rfl⟩, fun _ => .str s h2 (small_size h3)⟩
  | .tup l, u, h => by
    cases u <;> simp only [conB, Bool.false_eq_true] at h
    rename_i a
    split at h
    · rename_i c d its n sl e
      simp only [Bool.and_eq_true, decide_eq_true_eq] at h
      obtain ⟨⟨h1, h2⟩, h3⟩ := h
      subst h1
      obtain ⟨ys, r, f⟩ := conAll_ok h3
      have hl : ys.length ≤ sizeLine := by
        rw [r.length, Array.length_toList]; exact small_size h2
      exact ⟨.ref a, rfl, fun H => .tup (.inr ⟨_, its, n, e, rfl, rfl, small_size h2, r⟩) hl (f H)⟩
    · cases h
  | .lst l, u, h => by simp only [conB, Bool.false_eq_true] at h
  | .cell k, u, h => by simp only [conB, Bool.false_eq_true] at h
  | .fn k, u, h => by simp only [conB, Bool.false_eq_true] at h
theorem conAll_ok {K : PySem.W.Frag} : ∀ {l : List PV} {us : List Value}, conAll K l us = true → ∃ ys, Vals ys us ∧ ∀ H, FzAll K H ys l
  | [], us, h => by
    cases us with
    | nil => exact ⟨[], .nil, fun _ => .nil⟩
    | cons _ _ => simp only [conAll, Bool.false_eq_true] at h
  | v :: l, us, h => by
    cases us with
    | nil => simp only [conAll, Bool.false_eq_true] at h
    | cons u us =>
      simp only [conAll, Bool.and_eq_true] at h
      obtain ⟨y, r1, f1⟩ := conB_ok h.1
      obtain ⟨ys, r2, f2⟩ := conAll_ok h.2
      exact ⟨y :: ys, .cons r1 r2, fun H => .cons (f1 H) (f2 H)⟩
end
def conF (K : PySem.W.Frag) (q : Str × PV) : Bool := match PySem.W.nsIn K mainGlobals q.1 with
  | some (some u) => conB K q.2 u
  | _ => false
/-! ### the Hook -/
abbrev AlC : Type := He.AlD × Bool
def obsC (fa : List He.Fa) (fn : List He.DefD) (cs : List (Str × PV)) (K : PySem.W.Frag) : AlC := (He.obsD fa fn K, cs.all (conF K))
def obsCG (n : Nat) (fa : List He.Fa) (fn : List He.DefD) (cs : List (Str × PV)) (g : Addr → Option Obj) : AlC := obsC fa fn cs (frN g (He.asD g n))
def SaysC (fa : List He.Fa) (fn : List He.DefD) (cs : List (Str × PV)) (K : PySem.W.Frag) : Prop := obsC fa fn cs K = (He.valD fn, true)
def hookC (n : Nat) (fa : List He.Fa) (fn : List He.DefD) (cs : List (Str × PV)) : PySem.W.Hook where
  α := AlC
  obs := fun s => obsCG n fa fn cs s.heap.get?
  val := fun _ => (He.valD fn, true)
  says := fun _ h => ∃ K : PySem.W.Frag, K.In h ∧ NoL K ∧ SaysC fa fn cs K
  of := fun _ _ e => ⟨_, frN_in, frN_no, e⟩
  keeps := fun _ _ _ ⟨K, hK, hn, c⟩ k => ⟨K, PySem.W.Frag.In.keeps hK k, hn, c⟩
theorem obsCG_eq {n : Nat} {fa : List He.Fa} {fn : List He.DefD} {cs : List (Str × PV)} {g : Addr → Option Obj} {s : Shared} (h : ∀ a, g a = s.heap.get? a) : obsCG n fa fn cs g = (hookC n fa fn cs).obs s := by
  have e : g = s.heap.get? := funext h
  rw [e] <;> rfl
section
variable {fa : List He.Fa} {fn : List He.DefD} {cs : List (Str × PV)} {K : PySem.W.Frag}
theorem SaysC.d (c : SaysC fa fn cs K) : He.SaysD fa fn K := congrArg (fun z : AlC => z.1) c
theorem SaysC.con (c : SaysC fa fn cs K) {q : Str × PV} (h : q ∈ cs) : conF K q = true := List.all_eq_true.mp (congrArg (fun z : AlC => z.2) c) q h
end
/-! ### a text -/
structure Txt where
  pr : Prg
  ds : List Df
  fx : List Str
  cx : List Str
  bx : List Str
def Txt.nms (T : Txt) : Nm := ⟨T.fx, T.cx, [], T.bx⟩
def Txt.fa (T : Txt) : List He.Fa := T.fx.map He.Fa.glo ++ T.bx.map He.Fa.free
def dfD (x : Str) (d : Df) : He.DefD := ⟨(x, none), x, x, defArgs d.st, defBody d.st, defScope d.st, [], []⟩
def Txt.fn (T : Txt) : List He.DefD := List.zipWith dfD T.fx T.ds
def Txt.cs (T : Txt) : List (Str × PV) := T.cx.zip T.pr.con
def chkAll (nm : Nm) : List Fn → List Df → Bool
  | [], [] => true
  | F :: fs, d :: ds => dfB nm F d && chkAll nm fs ds
  | _, _ => false
def Txt.ok (T : Txt) : Bool := decide (T.fx.length = T.ds.length) && decide (T.cx.length = T.pr.con.length) && chkAll T.nms T.pr.fns T.ds
theorem chkAll_get {nm : Nm} : ∀ {fs : List Fn} {ds : List Df} {i : Nat} {d : Df}, chkAll nm fs ds = true → ds[i]? = some d → ∃ F, fs[i]? = some F ∧ dfB nm F d = true
  | [], [], i, d, _, h => by simp at h
  | [], _ :: _, _, _, h, _ => by cases h
  | _ :: _, [], _, _, h, _ => by cases h
  | F :: fs, e :: ds, 0, d, h, h2 => by
    simp only [chkAll, Bool.and_eq_true] at h
    simp at h2
    subst h2
    exact ⟨F, rfl, h.1⟩
  | F :: fs, e :: ds, i + 1, d, h, h2 => by
    simp only [chkAll, Bool.and_eq_true] at h
    obtain ⟨F', h3, h4⟩ := chkAll_get (i := i) h.2 (by simpa using h2)
    exact ⟨F', by simpa using h3, h4⟩
def gloOf (T : Txt) (P : Program) (w : World) (K : PySem.W.Frag) (mg : Str → Option Value) (base : Heap) : Glo := ⟨P, w, K, mg, base, T.pr, T.fx.map (He.ga K), T.fx, T.cx, [], [], T.bx⟩
section
variable {T : Txt} {P : Program} {w : World} {K : PySem.W.Frag} {mg : Str → Option Value} {base h : Heap}
theorem txt_def (ok : T.ok = true) (c : SaysC T.fa T.fn T.cs K) {i : Nat} {x : Str} (hx : T.fx[i]? = some x) : ∃ F d fd, T.ds[i]? = some d ∧ T.pr.fns[i]? = some F ∧ dfB T.nms F d = true ∧ FunD K x x (defArgs d.st) (defBody d.st) (defScope d.st) [] [] (He.ga K x) fd := by
  unfold Txt.ok at ok
  simp only [Bool.and_eq_true, decide_eq_true_eq] at ok
  obtain ⟨⟨o1, o2⟩, o3⟩ := ok
  have hi : i < T.ds.length := by rw [← o1]; exact (List.getElem?_eq_some_iff.mp hx).1
  have hd : T.ds[i]? = some T.ds[i] := List.getElem?_eq_getElem hi
  obtain ⟨F, f1, f2⟩ := chkAll_get o3 hd
  have hz : T.fn[i]? = some (dfD x T.ds[i]) := by
    unfold Txt.fn
    rw [List.getElem?_zipWith, hx, hd]
  obtain ⟨fd, hf⟩ := c.d.def_ i hz
  exact ⟨F, _, fd, hd, f1, f2, hf⟩
theorem txt_gok (ok : T.ok = true) (X : K.In h) (N : h.Ns mainGlobals mg) (c : SaysC T.fa T.fn T.cs K) : GOk (gloOf T P w K mg base) := by
  refine ⟨fun i x hx => ?_, fun i x hx => ?_, fun x hx => ?_, fun i x hx => ?_⟩
  · have o2 : T.cx.length = T.pr.con.length := by
      unfold Txt.ok at ok
      simp only [Bool.and_eq_true, decide_eq_true_eq] at ok
      exact ok.1.2
    have hi : i < T.pr.con.length := by rw [← o2]; exact (List.getElem?_eq_some_iff.mp hx).1
    have hv : T.pr.con[i]? = some T.pr.con[i] := List.getElem?_eq_getElem hi
    have hm : (x, T.pr.con[i]) ∈ T.cs := by
      refine List.mem_of_getElem? (i := i) ?_
      unfold Txt.cs
      rw [List.getElem?_zip_eq_some]
      exact ⟨hx, hv⟩
    have cf := c.con hm
    unfold conF at cf
    split at cf
    · rename_i u e
      obtain ⟨y, r, f⟩ := conB_ok cf
      exact ⟨_, u, y, hv, PySem.W.mg_of X N e, r, f⟩
    · cases cf
  · obtain ⟨F, d, fd, _, _, _, hf⟩ := txt_def ok c hx
    have hg : (He.Fa.glo x).ok K = true := by
      have hi : i < T.fx.length := (List.getElem?_eq_some_iff.mp hx).1
      refine c.d.fact i ?_
      unfold Txt.fa
      rw [List.getElem?_append_left (by simpa using hi), List.getElem?_map]
      show Option.map He.Fa.glo T.fx[i]? = _
      have hx' : T.fx[i]? = some x := hx
      rw [hx']; rfl
    refine ⟨He.ga K x, ?_, He.glo_ok X N hg, hf.kp⟩
    show (T.fx.map (He.ga K))[i]? = _
    have hx' : T.fx[i]? = some x := hx
    rw [List.getElem?_map, hx']; rfl
  · obtain ⟨j, hj, e⟩ := List.mem_iff_getElem.mp (show x ∈ T.bx from hx)
    have hg : (He.Fa.free x).ok K = true := by
      refine c.d.fact (T.fx.length + j) ?_
      unfold Txt.fa
      rw [List.getElem?_append_right (by simp), List.getElem?_map]
      simp only [List.length_map, Nat.add_sub_cancel_left]
      rw [List.getElem?_eq_getElem hj, e]; rfl
    exact He.free_ok X N hg
  · exact absurd (show ([] : List Str)[i]? = some x from hx) (by simp)
theorem txt_has (ok : T.ok = true) (c : SaysC T.fa T.fn T.cs K) (i : Nat) (a : Addr) (ha : (gloOf T P w K mg base).fa[i]? = some a) : ∃ F d fd, HasDef (gloOf T P w K mg base) i a F d fd := by
  have ha' : (T.fx.map (He.ga K))[i]? = some a := ha
  rw [List.getElem?_map] at ha'
  obtain ⟨x, hx, rfl⟩ := Option.map_eq_some_iff.mp ha'
  obtain ⟨F, d, fd, h1, h2, h3, h4⟩ := txt_def ok c hx
  exact ⟨F, d, fd, h2, ⟨x, x, h4⟩, h3⟩
/-- what is asked of the law's def -/
def spLaw (K : PySem.W.Frag) : Sp := fun vs H Q _ => ∃ (a : Addr) (ns : List Int), vs = [.ref a] ∧ Only H ∧ SqL K H a (ns.map V.int) ∧ ns.length ≤ 63 ∧ ∀ H', Q (.bl true) H'
theorem law_fn (ok : T.ok = true) (hn : NoL K) (X : K.In h) (N : h.Ns mainGlobals mg) (c : SaysC T.fa T.fn T.cs K) {n i : Nat} {x p : Str} (hx : T.fx[i]? = some x) {d : Df} (hd : T.ds[i]? = some d) {as : List Arg} (hp1 : argsOf (defArgs d.st) = some as) (hp2 : as.map (·.arg) = [p])
    (law : ∀ ns : List Int, ns.length ≤ 63 → ∃ m, run T.pr (n + 1) i [.lst (ns.map .int)] [] = .ok (.bl true) m) :
    ∃ fd : FuncData, (∀ (s : Shared) (v : Value), BindsTo s fd ⟨[v], []⟩ [(p, v)]) ∧ ∀ base : Heap, K.In base → base.Ns mainGlobals mg → FnOk P w K mg base (fun _ _ _ _ _ _ => False) (n + 1 + 5) (He.ga K x) fd [p] (spLaw K) := by
  obtain ⟨F, d0, fd, e1, e2, e3, e4⟩ := txt_def ok c hx
  rw [hd] at e1
  cases e1
  refine ⟨fd, fun s v => ?_, fun base Xb Nb => ?_⟩
  · have e5 := e4
    rw [argsOf_eq hp1] at e5
    have b := FunD.bindsA (ps := [p]) e5 fun kV doc pm an cdv ct us hl => by
      have := bind_gen (x := x) (qual := x) (as := as) (body := defBody d.st) (scope := defScope d.st) (kV := kV) (doc := doc) (pm := pm) (an := an) (cdv := cdv) (ct := ct) (us := us) (by rw [hp2]; simp) (by rw [hp2]; exact hl)
      rw [hp2] at this
      exact this
    exact b s [v] rfl
  · have hG : GOk (gloOf T P w K mg base) := txt_gok ok X N c
    have hA := fns_all hG (txt_has ok c) n
    have H : HasDef (gloOf T P w K mg base) i (He.ga K x) F d fd := ⟨e2, ⟨x, x, e4⟩, e3⟩
    obtain ⟨ps, ⟨as', a1, a2⟩, h1, h2, h3, h4, h5, h6⟩ := H.parts
    rw [hp1] at a1
    cases a1
    rw [hp2] at a2
    subst a2
    have D := def_ok hG hA H h1 h2 h3 h4
    refine ⟨fun vs H Q E q => by obtain ⟨a, ns, rfl, _⟩ := q; rfl, fun A outer s H args us vs Q E hr he hb hv q => ?_⟩
    have q' : spF (gloOf T P w K mg base) (n + 1) i F.np vs H Q (fun _ _ _ => False) := by
      obtain ⟨a, ns, rfl, hO, hS, hl, hQ⟩ := q
      refine ⟨h1, [], [], [.lst (ns.map .int)], .cons (.d ?_) .nil, ⟨rfl, List.nodup_nil, fun k a l e => by simp at e⟩, ?_⟩
      · have fl : FL H a (ns.map V.int) := by
          rcases hS with (hS | hS) | ⟨o, its, k, hk, hc, _⟩
          · rcases hO a with z | ⟨o, xs, z⟩
            · rw [z] at hS; cases hS
            · rw [z] at hS; cases hS
          · exact hS
          · have := hn a o hk
            rw [isLst_of hc] at this
            cases this
        refine .lst fl (by rw [List.length_map]; exact small_size (by omega)) ?_
        have key : ∀ ks : List Int, FzAll K H (ks.map V.int) (ks.map PV.int) := by
          intro ks
          induction ks with
          | nil => exact .nil
          | cons k ks ih => exact .cons (.int k) ih
        exact key ns
      · obtain ⟨m, e⟩ := law ns hl
        show Post _ _ (run T.pr (n + 1) i [.lst (ns.map .int)] []) H [] Q _
        rw [e]
        intro x H' α' st rx me
        have := fz_bl rx
        subst this
        exact hQ H'
    refine codeAny_mono (D.run A outer s H args us vs Q (fun _ _ _ => False) hr he hb hv q') fun r s' h => ?_
    cases r with
    | error e =>
      have h2 : L2.CX P w outer H s (fun _ _ _ => False) e s' := h
      obtain ⟨_, _, _, _, _, _, _, _, _, _, _, _, z⟩ := h2
      exact z.elim
    | ok fl => cases fl <;> exact h
end
end Pv
namespace Pv
/-! ## To run the evaluator by simp -/
def ob {α : Type} (o : Option Bool) (f g : R α) : R α := match o with
  | some true => f
  | some false => g
  | none => .no
def obl {α : Type} (x : PV) (f g : R α) : R α := match x with
  | .bl true => f
  | .bl false => g
  | _ => .no
theorem ob_some {α : Type} (b : Bool) (f g : R α) : ob (some b) f g = if b = true then f else g := by cases b <;> rfl
theorem ob_map {α : Type} (o : Option Bool) (h : Bool → Bool) (f g : R α) : ob (o.map h) f g = ob o (ob (some (h true)) f g) (ob (some (h false)) f g) := by
  rcases o with _ | _ | _ <;> rfl
theorem obl_bl {α : Type} (b : Bool) (f g : R α) : obl (.bl b) f g = if b = true then f else g := by cases b <;> rfl
theorem bnd_if {α β : Type} {c : Prop} [Decidable c] (a b : R α) (f : α → Mem → R β) : bnd (if c then a else b) f = if c then bnd a f else bnd b f := by split <;> rfl
theorem lft_if {α : Type} {c : Prop} [Decidable c] (a b : Option α) (m : Mem) : lft (if c then a else b) m = if c then lft a m else lft b m := by split <;> rfl
section
variable {C : List PV} {Φ : Nat → List PV → Mem → R PV} {ρ : Env} {m : Mem}
theorem x_k (v : PV) : evE C Φ (.k v) ρ m = .ok v m := rfl
theorem x_loc (i : Nat) : evE C Φ (.loc i) ρ m = lft (ρ[i]?.join) m := by
  simp only [evE]
  rcases ρ[i]? with _ | _ | v <;> rfl
theorem x_glo (i : Nat) : evE C Φ (.glo i) ρ m = lft C[i]? m := rfl
theorem x_bin (mu : Bool) (o : Op) (a b : E) : evE C Φ (.bin mu o a b) ρ m = bnd (evE C Φ a ρ m) fun x m => bnd (evE C Φ b ρ m) fun y m => binop mu o x y m := rfl
theorem x_neg (a : E) : evE C Φ (.neg a) ρ m = bnd (evE C Φ a ρ m) fun x m => match x with
    | .int i => .ok (.int (-i)) m
    | _ => .no := rfl
theorem x_not (a : E) : evE C Φ (.not a) ρ m = bnd (evE C Φ a ρ m) fun x m => lft ((truth m x).map fun b => .bl (!b)) m := rfl
theorem x_and (a b : E) : evE C Φ (.and a b) ρ m = bnd (evE C Φ a ρ m) fun x m => obl x (evE C Φ b ρ m) (.ok (.bl false) m) := rfl
theorem x_or (a b : E) : evE C Φ (.or a b) ρ m = bnd (evE C Φ a ρ m) fun x m => obl x (.ok (.bl true) m) (evE C Φ b ρ m) := rfl
theorem x_cmp (c : Cm) (a b : E) : evE C Φ (.cmp c a b) ρ m = bnd (evE C Φ a ρ m) fun x m => bnd (evE C Φ b ρ m) fun y m => lft ((cmpop c m x y).map .bl) m := rfl
theorem x_cmp2 (c d : Cm) (a b e : E) : evE C Φ (.cmp2 c d a b e) ρ m = bnd (evE C Φ a ρ m) fun x m => bnd (evE C Φ b ρ m) fun y m => ob (cmpop c m x y) (bnd (evE C Φ e ρ m) fun z m => lft ((cmpop d m y z).map .bl) m) (.ok (.bl false) m) := rfl
theorem x_ite (c a b : E) : evE C Φ (.ite c a b) ρ m = bnd (evE C Φ c ρ m) fun x m => ob (truth m x) (evE C Φ a ρ m) (evE C Φ b ρ m) := rfl
theorem x_nil : evE C Φ .nil ρ m = .ok (.tup []) m := rfl
theorem x_cons (a l : E) : evE C Φ (.cons a l) ρ m = bnd (evE C Φ a ρ m) fun x m => bnd (evE C Φ l ρ m) fun r m => .ok (.tup (x :: unl r)) m := rfl
theorem x_tup (l : E) : evE C Φ (.tup l) ρ m = bnd (evE C Φ l ρ m) fun r m => if (unl r).all PV.isD && decide ((unl r).length ≤ 1000) then .ok (.tup (unl r)) m else .no := rfl
theorem x_lst (mu : Bool) (l : E) : evE C Φ (.lst mu l) ρ m = bnd (evE C Φ l ρ m) fun r m => if (unl r).length ≤ 1000 then mkl mu (unl r) m else .no := rfl
theorem x_ix (a b : E) : evE C Φ (.ix a b) ρ m = bnd (evE C Φ a ρ m) fun x m => bnd (evE C Φ b ρ m) fun y m => lft (item m x y) m := rfl
theorem x_sl (a lo hi : E) : evE C Φ (.sl a lo hi) ρ m = bnd (evE C Φ a ρ m) fun x m => bnd (evE C Φ lo ρ m) fun y m => if (optI y).isSome then bnd (evE C Φ hi ρ m) fun z m => lft (slice m x y z) m else .no := rfl
theorem x_call (f : Nat) (l : E) : evE C Φ (.call f l) ρ m = bnd (evE C Φ l ρ m) fun r m => Φ f (unl r) m := rfl
theorem x_bf (mu : Bool) (b : Bf) (l : E) : evE C Φ (.bf mu b l) ρ m = bnd (evE C Φ l ρ m) fun r m => callB mu b (unl r) m := rfl
theorem x_isi (a : E) (t : Ty) : evE C Φ (.isi a t) ρ m = bnd (evE C Φ a ρ m) fun x m => lft ((isTy m x t).map .bl) m := rfl
theorem x_rng (a : E) : evE C Φ (.rng a) ρ m = bnd (evE C Φ a ρ m) fun x m => match x with
    | .int i => if i ≤ (big : Int) ∧ small i = true then .ok (.lst (rangeL 0 i.toNat)) m else .no
    | _ => .no := rfl
theorem x_zip (a b : E) : evE C Φ (.zip a b) ρ m = bnd (evE C Φ a ρ m) fun x m => bnd (evE C Φ b ρ m) fun y m => match x, y with
    | .tup l, .tup r => .ok (.lst (zipL l r)) m
    | .lst l, .lst r => .ok (.lst (zipL l r)) m
    | _, _ => .no := rfl
/-- the turns of a comprehension -/
def cmpB (C : List PV) (Φ : Nat → List PV → Mem → R PV) (ρ : Env) (own : List Nat) (t : Tg) (c e : E) : PV → Mem → R (Option PV) := fun x m => match asg t x (wipeP ρ own) with
  | some ρ' => compT (evE C Φ c ρ') (evE C Φ e ρ') m
  | none => .no
theorem x_comp (mu : Bool) (own : List Nat) (t : Tg) (s c e : E) : evE C Φ (.comp mu own t s c e) ρ m = bnd (evE C Φ s ρ m) fun sv m => match sv with
    | .tup l => bnd (compL (cmpB C Φ ρ own t c e) l m) fun vs m => mkl mu vs m
    | .lst l => bnd (compL (cmpB C Φ ρ own t c e) l m) fun vs m => mkl mu vs m
    | _ => .no := by
  rfl
theorem x_dget (ks : List (List Nat)) (vs k d : E) : evE C Φ (.dget ks vs k d) ρ m = bnd (evE C Φ vs ρ m) fun vr m => bnd (evE C Φ k ρ m) fun x m => bnd (evE C Φ d ρ m) fun y m => match x with
    | .str s => .ok ((lkS ks (unl vr) s).getD y) m
    | _ => .no := rfl
theorem s_skip : evS C Φ .skip ρ m = .ok (.next, ρ) m := rfl
/-- what follows a statement -/
def thenS (q : Fl × Env) (m : Mem) (f : Env → Mem → R (Fl × Env)) : R (Fl × Env) := match q.1 with
  | .next => f q.2 m
  | x => .ok (x, q.2) m
theorem thenS_next (ρ : Env) (m : Mem) (f : Env → Mem → R (Fl × Env)) : thenS (.next, ρ) m f = f ρ m := rfl
theorem thenS_ret (v : PV) (ρ : Env) (m : Mem) (f : Env → Mem → R (Fl × Env)) : thenS (.ret v, ρ) m f = .ok (.ret v, ρ) m := rfl
theorem s_seq (a b : S) : evS C Φ (.seq a b) ρ m = bnd (evS C Φ a ρ m) fun q m => thenS q m fun ρ m => evS C Φ b ρ m := rfl
theorem s_ex (e : E) : evS C Φ (.ex e) ρ m = bnd (evE C Φ e ρ m) fun _ m => .ok (.next, ρ) m := rfl
theorem s_ret (e : E) : evS C Φ (.ret e) ρ m = bnd (evE C Φ e ρ m) fun v m => .ok (.ret v, ρ) m := rfl
theorem s_asg (t : Tg) (e : E) : evS C Φ (.asg t e) ρ m = bnd (evE C Φ e ρ m) fun v m => lft ((asg t v ρ).map fun ρ' => (.next, ρ')) m := rfl
theorem s_par (t : Tg) (l : E) : evS C Φ (.par t l) ρ m = bnd (evE C Φ l ρ m) fun v m => lft ((asg t v ρ).map fun ρ' => (.next, ρ')) m := rfl
theorem s_ite (c : E) (a b : S) : evS C Φ (.ite c a b) ρ m = bnd (evE C Φ c ρ m) fun x m => ob (truth m x) (evS C Φ a ρ m) (evS C Φ b ρ m) := rfl
def forB (C : List PV) (Φ : Nat → List PV → Mem → R PV) (t : Tg) (b : S) : PV → Env → Mem → R (Fl × Env) := fun x ρ m => match asg t x ρ with
  | some ρ' => evS C Φ b ρ' m
  | none => .no
theorem s_for (t : Tg) (s : E) (b : S) : evS C Φ (.for_ t s b) ρ m = bnd (evE C Φ s ρ m) fun sv m => match sv with
    | .tup l => forL (forB C Φ t b) l ρ m
    | .lst l => forL (forB C Φ t b) l ρ m
    | _ => .no := rfl
theorem forB_eq (t : Tg) (b : S) (x : PV) : forB C Φ t b x ρ m = match asg t x ρ with
  | some ρ' => evS C Φ b ρ' m
  | none => .no := rfl
end
theorem fin_ret (v : PV) (ρ : Env) (m : Mem) : fin (.ret v, ρ) m = .ok v m := rfl
theorem fin_next (ρ : Env) (m : Mem) : fin (.next, ρ) m = .ok .non m := rfl
theorem D_non : PV.non.isD = true := by simp [PV.isD]
theorem D_bl (b : Bool) : (PV.bl b).isD = true := by simp [PV.isD]
theorem D_int (i : Int) : (PV.int i).isD = true := by simp [PV.isD]
theorem D_str (s : List Nat) : (PV.str s).isD = true := by simp [PV.isD]
theorem D_tup (l : List PV) : (PV.tup l).isD = true := by simp [PV.isD]
theorem D_lst (l : List PV) : (PV.lst l).isD = true := by simp [PV.isD]
theorem D_cell (k : Nat) : (PV.cell k).isD = false := by simp [PV.isD]
theorem D_fn (k : Nat) : (PV.fn k).isD = false := by simp [PV.isD]
theorem P_non : PV.non.dep = 0 := by simp [PV.dep]
theorem P_bl (b : Bool) : (PV.bl b).dep = 0 := by simp [PV.dep]
theorem P_int (i : Int) : (PV.int i).dep = 0 := by simp [PV.dep]
theorem P_str (s : List Nat) : (PV.str s).dep = 0 := by simp [PV.dep]
theorem P_tup (l : List PV) : (PV.tup l).dep = depAll l + 1 := by simp [PV.dep]
theorem P_lst (l : List PV) : (PV.lst l).dep = depAll l + 1 := by simp [PV.dep]
theorem P_nil : depAll [] = 0 := by simp [depAll]
theorem P_cons (x : PV) (l : List PV) : depAll (x :: l) = max x.dep (depAll l) := by simp [depAll]
theorem F_non : PV.non.flat = true := by simp [PV.flat]
theorem F_bl (b : Bool) : (PV.bl b).flat = true := by simp [PV.flat]
theorem F_int (i : Int) : (PV.int i).flat = true := by simp [PV.flat]
theorem F_str (s : List Nat) : (PV.str s).flat = true := by simp [PV.flat]
theorem F_tup (l : List PV) : (PV.tup l).flat = flatAll l := by simp [PV.flat]
theorem F_lst (l : List PV) : (PV.lst l).flat = flatAll l := by simp [PV.flat]
theorem F_cell (k : Nat) : (PV.cell k).flat = false := by simp [PV.flat]
theorem F_fn (k : Nat) : (PV.fn k).flat = false := by simp [PV.flat]
theorem F_nil : flatAll [] = true := by simp [flatAll]
theorem F_cons (x : PV) (l : List PV) : flatAll (x :: l) = (x.flat && flatAll l) := by simp [flatAll]
theorem flat_D {v : PV} (h : v.flat = true) : v.isD = true := by
  cases v <;> first | rfl | (simp [F_cell, F_fn] at h)
/-! ### comparisons of data -/
theorem vw_data {m : Mem} {v : PV} (h : v.isD = true) : vw m v = v := by
  cases v <;> first | rfl | cases h
theorem eqM_d {m : Mem} {x y : PV} (hx : x.isD = true) (hy : y.isD = true) (hd : y.dep ≤ 64) : eqM m x y = some (x.eqv y) := by
  unfold eqM
  rw [vw_data hx, vw_data hy, hx, hy, if_pos]
  simp only [Bool.true_and, decide_eq_true_eq]
  exact Nat.le_trans (Nat.min_le_right _ _) hd
theorem isIn_t {m : Mem} {x : PV} {l : List PV} (hx : x.isD = true) (hd : depAll l ≤ 64) : isIn m x (.tup l) = some (anyEq x l) := by
  unfold isIn
  rw [vw_data hx]
  show (if (x.isD && decide (min (depAll l) x.dep ≤ maxD)) = true then some (anyEq x l) else none) = _
  rw [hx, if_pos]
  simp only [Bool.true_and, decide_eq_true_eq]
  exact Nat.le_trans (Nat.min_le_left _ _) hd
theorem isIn_l {m : Mem} {x : PV} {l : List PV} (hx : x.isD = true) (hd : depAll l ≤ 64) : isIn m x (.lst l) = some (anyEq x l) := by
  unfold isIn
  rw [vw_data hx]
  show (if (x.isD && decide (min (depAll l) x.dep ≤ maxD)) = true then some (anyEq x l) else none) = _
  rw [hx, if_pos]
  simp only [Bool.true_and, decide_eq_true_eq]
  exact Nat.le_trans (Nat.min_le_left _ _) hd
/-! ### a comprehension whose parts leave the store alone -/
theorem compL_pure {f : PV → Mem → R (Option PV)} {g : PV → Option PV} {m : Mem} : ∀ {l : List PV}, (∀ x ∈ l, f x m = .ok (g x) m) → compL f l m = .ok (l.filterMap g) m
  | [], _ => rfl
  | x :: l, h => by
    unfold compL
    rw [h x (by simp), bnd_ok, compL_pure fun y hy => h y (by simp [hy]), bnd_ok, List.filterMap_cons]
    cases g x <;> rfl
theorem compT_all {c e : Mem → R PV} {m : Mem} {v : PV} (hc : c m = .ok (.bl true) m) (he : e m = .ok v m) : compT c e m = .ok (some v) m := by
  unfold compT
  rw [hc, noexc_ok, bnd_ok]
  show bnd (tstB m (.bl true)) _ = _
  simp only [tstB, truth, lft_some, bnd_ok, if_true]
  rw [he, noexc_ok, bnd_ok]
theorem compT_if {c e : Mem → R PV} {m : Mem} {b : Bool} {v : PV} (hc : c m = .ok (.bl b) m) (he : b = true → e m = .ok v m) : compT c e m = .ok (if b = true then some v else none) m := by
  unfold compT
  rw [hc, noexc_ok, bnd_ok]
  show bnd (tstB m (.bl b)) _ = _
  simp only [tstB, truth, lft_some, bnd_ok]
  cases b with
  | true => rw [if_pos rfl, he rfl, noexc_ok, bnd_ok]; rfl
  | false => rfl
end Pv
namespace P00
open Pv
-- constants: 0 FIELDS, 1 HIGH, 2 PORTS, 3 SWITCHES, 4 NODES, 5 HEIGHT
-- classes: 
def con : List PV := [.tup [.str [102, 114, 111, 109], .str [116, 111], .str [109, 97, 114, 107]], .int 3, .int 4, .int 4, .int 60, .int 12]
-- 0 is_whole(value, low, high): value low high
def b0 : S := .ret (.and (.isi (.loc 0) .int) (.and (.not (.isi (.loc 0) .bool)) (.cmp2 .le .le (.loc 1) (.loc 0) (.loc 2))))
def f0 : Fn := ⟨3, 3, b0⟩
-- 1 is_tuple_of(value, low, high): value low high
def b1 : S := .ret (.and (.isi (.loc 0) .tuple) (.cmp2 .le .le (.loc 1) (.bf false .len (.cons (.loc 0) (.nil))) (.loc 2)))
def f1 : Fn := ⟨3, 3, b1⟩
-- 2 is_word_of(value, words): value words
def b2 : S := .ret (.and (.isi (.loc 0) .str) (.cmp .in_ (.loc 0) (.loc 1)))
def f2 : Fn := ⟨2, 2, b2⟩
-- 3 is_headed(value, low, high): value low high
def b3 : S := .ret (.and (.call 1 (.cons (.loc 0) (.cons (.loc 1) (.cons (.loc 2) (.nil))))) (.isi (.ix (.loc 0) (.k (.int 0))) .str))
def f3 : Fn := ⟨3, 3, b3⟩
-- 4 is_ascending(values): values low high
def b4 : S := .ret (.bf false .all (.cons (.comp false [1, 2] (.t (.cons (.v 1) (.cons (.v 2) (.nil)))) (.zip (.loc 0) (.sl (.loc 0) (.k (.int 1)) (.k .non))) (.k (.bl true)) (.cmp .lt (.loc 1) (.loc 2))) (.nil)))
def f4 : Fn := ⟨1, 3, b4⟩
-- 5 is_field_test(value): value
def b5 : S := .seq (.ite (.or (.cmp .ne (.bf false .len (.cons (.loc 0) (.nil))) (.k (.int 4))) (.or (.not (.call 2 (.cons (.ix (.loc 0) (.k (.int 1))) (.cons (.glo 0) (.nil))))) (.not (.call 0 (.cons (.ix (.loc 0) (.k (.int 2))) (.cons (.k (.int 0)) (.cons (.glo 1) (.nil)))))))) (.ret (.k (.bl false))) (.skip)) (.ret (.call 0 (.cons (.ix (.loc 0) (.k (.int 3))) (.cons (.ix (.loc 0) (.k (.int 2))) (.cons (.glo 1) (.nil))))))
def f5 : Fn := ⟨1, 1, b5⟩
-- 6 test_left(value, high, many): value high many sort rest part
def b6 : S := .seq (.ite (.or (.cmp .eq (.loc 1) (.k (.int 0))) (.or (.cmp .eq (.loc 2) (.k (.int 0))) (.not (.call 3 (.cons (.loc 0) (.cons (.k (.int 1)) (.cons (.k (.int 4)) (.nil)))))))) (.ret (.neg (.k (.int 1)))) (.skip)) (.seq (.par (.t (.cons (.v 3) (.cons (.v 4) (.nil)))) (.cons (.ix (.loc 0) (.k (.int 0))) (.cons (.bin false .sub (.loc 2) (.k (.int 1))) (.nil)))) (.seq (.ite (.or (.and (.cmp .eq (.loc 3) (.k (.str [97, 110, 121]))) (.cmp .eq (.bf false .len (.cons (.loc 0) (.nil))) (.k (.int 1)))) (.and (.cmp .eq (.loc 3) (.k (.str [102, 105, 101, 108, 100]))) (.call 5 (.cons (.loc 0) (.nil))))) (.ret (.loc 4)) (.skip)) (.seq (.ite (.and (.cmp .eq (.loc 3) (.k (.str [105, 110]))) (.and (.cmp .eq (.bf false .len (.cons (.loc 0) (.nil))) (.k (.int 2))) (.call 0 (.cons (.ix (.loc 0) (.k (.int 1))) (.cons (.k (.int 0)) (.cons (.bin false .sub (.glo 2) (.k (.int 1))) (.nil))))))) (.ret (.loc 4)) (.skip)) (.seq (.ite (.not (.or (.and (.cmp .eq (.loc 3) (.k (.str [110, 111, 116]))) (.cmp .eq (.bf false .len (.cons (.loc 0) (.nil))) (.k (.int 2)))) (.and (.cmp .in_ (.loc 3) (.tup (.cons (.k (.str [97, 110, 100])) (.cons (.k (.str [111, 114])) (.nil))))) (.cmp .eq (.bf false .len (.cons (.loc 0) (.nil))) (.k (.int 3)))))) (.ret (.neg (.k (.int 1)))) (.skip)) (.seq (.for_ (.v 5) (.sl (.loc 0) (.k (.int 1)) (.k .non)) (.asg (.v 4) (.ite (.cmp .ge (.loc 4) (.k (.int 0))) (.call 6 (.cons (.loc 5) (.cons (.bin false .sub (.loc 1) (.k (.int 1))) (.cons (.loc 4) (.nil))))) (.neg (.k (.int 1)))))) (.ret (.loc 4)))))))
def f6 : Fn := ⟨3, 6, b6⟩
-- 7 is_leaf(value): value
def b7 : S := .seq (.ite (.cmp .in_ (.ix (.loc 0) (.k (.int 0))) (.tup (.cons (.k (.str [100, 114, 111, 112])) (.cons (.k (.str [112, 97, 115, 115])) (.nil))))) (.ret (.cmp .eq (.bf false .len (.cons (.loc 0) (.nil))) (.k (.int 1)))) (.skip)) (.seq (.ite (.cmp .eq (.ix (.loc 0) (.k (.int 0))) (.k (.str [111, 117, 116]))) (.ret (.and (.cmp .eq (.bf false .len (.cons (.loc 0) (.nil))) (.k (.int 2))) (.call 0 (.cons (.ix (.loc 0) (.k (.int 1))) (.cons (.k (.int 0)) (.cons (.bin false .sub (.glo 2) (.k (.int 1))) (.nil))))))) (.skip)) (.ret (.and (.cmp .eq (.ix (.loc 0) (.k (.int 0))) (.k (.str [115, 101, 116]))) (.and (.cmp .eq (.bf false .len (.cons (.loc 0) (.nil))) (.k (.int 3))) (.and (.call 2 (.cons (.ix (.loc 0) (.k (.int 1))) (.cons (.glo 0) (.nil)))) (.call 0 (.cons (.ix (.loc 0) (.k (.int 2))) (.cons (.k (.int 0)) (.cons (.glo 1) (.nil))))))))))
def f7 : Fn := ⟨1, 1, b7⟩
-- 8 are_switches(value): value own
def b8 : S := .seq (.ite (.or (.not (.call 1 (.cons (.loc 0) (.cons (.k (.int 1)) (.cons (.glo 3) (.nil)))))) (.not (.bf false .all (.cons (.comp false [1] (.v 1) (.loc 0) (.k (.bl true)) (.call 0 (.cons (.loc 1) (.cons (.k (.int 0)) (.cons (.bin false .sub (.glo 3) (.k (.int 1))) (.nil)))))) (.nil))))) (.ret (.k (.bl false))) (.skip)) (.ret (.call 4 (.cons (.loc 0) (.nil))))
def f8 : Fn := ⟨1, 2, b8⟩
-- 9 parts_in(value): value sort many
def b9 : S := .seq (.par (.t (.cons (.v 1) (.cons (.v 2) (.nil)))) (.cons (.ix (.loc 0) (.k (.int 0))) (.cons (.bf false .len (.cons (.loc 0) (.nil))) (.nil)))) (.seq (.ite (.and (.cmp .in_ (.loc 1) (.tup (.cons (.k (.str [98, 111, 116, 104])) (.cons (.k (.str [116, 104, 101, 110])) (.nil))))) (.cmp .eq (.loc 2) (.k (.int 3)))) (.ret (.sl (.loc 0) (.k (.int 1)) (.k .non))) (.skip)) (.seq (.ite (.and (.cmp .eq (.loc 1) (.k (.str [105, 102]))) (.cmp .eq (.loc 2) (.k (.int 4)))) (.ret (.sl (.loc 0) (.k (.int 2)) (.k .non))) (.skip)) (.ret (.ite (.and (.cmp .eq (.loc 1) (.k (.str [97, 116]))) (.and (.cmp .eq (.loc 2) (.k (.int 3))) (.call 8 (.cons (.ix (.loc 0) (.k (.int 1))) (.nil))))) (.sl (.loc 0) (.k (.int 2)) (.k .non)) (.k (.non))))))
def f9 : Fn := ⟨1, 3, b9⟩
-- 10 policy_left(value, high, many): value high many rest parts part
def b10 : S := .seq (.ite (.or (.cmp .eq (.loc 1) (.k (.int 0))) (.or (.cmp .eq (.loc 2) (.k (.int 0))) (.not (.call 3 (.cons (.loc 0) (.cons (.k (.int 1)) (.cons (.k (.int 4)) (.nil)))))))) (.ret (.neg (.k (.int 1)))) (.skip)) (.seq (.asg (.v 3) (.bin false .sub (.loc 2) (.k (.int 1)))) (.seq (.ite (.call 7 (.cons (.loc 0) (.nil))) (.ret (.loc 3)) (.skip)) (.seq (.asg (.v 4) (.call 9 (.cons (.loc 0) (.nil)))) (.seq (.ite (.cmp .is_ (.loc 4) (.k (.non))) (.ret (.neg (.k (.int 1)))) (.skip)) (.seq (.ite (.cmp .eq (.ix (.loc 0) (.k (.int 0))) (.k (.str [105, 102]))) (.asg (.v 3) (.call 6 (.cons (.ix (.loc 0) (.k (.int 1))) (.cons (.bin false .sub (.loc 1) (.k (.int 1))) (.cons (.loc 3) (.nil)))))) (.skip)) (.seq (.for_ (.v 5) (.loc 4) (.asg (.v 3) (.ite (.cmp .ge (.loc 3) (.k (.int 0))) (.call 10 (.cons (.loc 5) (.cons (.bin false .sub (.loc 1) (.k (.int 1))) (.cons (.loc 3) (.nil))))) (.neg (.k (.int 1)))))) (.ret (.loc 3))))))))
def f10 : Fn := ⟨3, 6, b10⟩
-- 11 fits_test(value): value
def b11 : S := .ret (.cmp .ge (.call 6 (.cons (.loc 0) (.cons (.glo 5) (.cons (.glo 4) (.nil))))) (.k (.int 0)))
def f11 : Fn := ⟨1, 1, b11⟩
-- 12 fits_policy(value): value
def b12 : S := .ret (.cmp .ge (.call 10 (.cons (.loc 0) (.cons (.glo 5) (.cons (.glo 4) (.nil))))) (.k (.int 0)))
def f12 : Fn := ⟨1, 1, b12⟩
-- 13 is_test(value): value
def b13 : S := .ret (.call 11 (.cons (.loc 0) (.nil)))
def f13 : Fn := ⟨1, 1, b13⟩
-- 14 is_policy(value): value
def b14 : S := .ret (.call 12 (.cons (.loc 0) (.nil)))
def f14 : Fn := ⟨1, 1, b14⟩
-- 15 _law_cup(script): script cell
def b15 : S := .seq (.asg (.v 1) (.bf false .abs (.cons (.ix (.bin false .add (.bf false .list (.cons (.loc 0) (.nil))) (.lst false (.cons (.k (.int 0)) (.nil)))) (.k (.int 0))) (.nil)))) (.ret (.lst true (.cons (.ite (.cmp .ge (.loc 1) (.bin false .pow (.k (.int 10)) (.k (.int 18)))) (.bin false .fdiv (.loc 1) (.k (.int 127))) (.k (.int 0))) (.cons (.bin false .add (.bin false .mod (.bf false .int_ (.cons (.bin false .add (.bin false .mul (.loc 1) (.k (.int 353))) (.k (.int 2797))) (.nil))) (.k (.int 2077503023))) (.k (.int 229))) (.nil)))))
def f15 : Fn := ⟨1, 2, b15⟩
-- 16 _law_roll(cup, many): cup many found deep
def b16 : S := .seq (.ite (.cmp .gt (.ix (.loc 0) (.k (.int 0))) (.k (.int 0))) (.seq (.asg (.v 2) (.bin false .mod (.bf false .int_ (.cons (.ix (.loc 0) (.k (.int 0))) (.nil))) (.loc 1))) (.seq (.setix (.loc 0) (.k (.int 0)) (.bin false .fdiv (.ix (.loc 0) (.k (.int 0))) (.loc 1))) (.ret (.loc 2)))) (.skip)) (.seq (.setix (.loc 0) (.k (.int 1)) (.bin false .mod (.bf false .int_ (.cons (.bin false .add (.bin false .mul (.ix (.loc 0) (.k (.int 1))) (.k (.int 31177))) (.k (.int 8117))) (.nil))) (.k (.int 2147483543)))) (.seq (.asg (.v 3) (.bin false .mod (.bf false .int_ (.cons (.bin false .mul (.ix (.loc 0) (.k (.int 1))) (.bin false .add (.ix (.loc 0) (.k (.int 1))) (.k (.int 293)))) (.nil))) (.k (.int 2147483587)))) (.ret (.bin false .mod (.bf false .int_ (.cons (.bin false .fdiv (.loc 3) (.k (.int 887))) (.nil))) (.loc 1)))))
def f16 : Fn := ⟨2, 4, b16⟩
-- 17 _law_some(cup, things): cup things
def b17 : S := .ret (.ix (.loc 1) (.call 16 (.cons (.loc 0) (.cons (.bf false .len (.cons (.loc 1) (.nil))) (.nil)))))
def f17 : Fn := ⟨2, 2, b17⟩
-- 18 _law_test(cup, deep, ports): cup deep ports way low
def b18 : S := .seq (.asg (.v 3) (.ite (.cmp .gt (.loc 1) (.k (.int 0))) (.call 16 (.cons (.loc 0) (.cons (.k (.int 8)) (.nil)))) (.call 16 (.cons (.loc 0) (.cons (.k (.int 5)) (.nil)))))) (.seq (.ite (.cmp .lt (.loc 3) (.k (.int 4))) (.seq (.asg (.v 4) (.call 16 (.cons (.loc 0) (.cons (.k (.int 4)) (.nil))))) (.ret (.tup (.cons (.k (.str [102, 105, 101, 108, 100])) (.cons (.call 17 (.cons (.loc 0) (.cons (.lst false (.cons (.k (.str [102, 114, 111, 109])) (.cons (.k (.str [116, 111])) (.cons (.k (.str [109, 97, 114, 107])) (.nil))))) (.nil)))) (.cons (.loc 4) (.cons (.bin false .add (.loc 4) (.call 16 (.cons (.loc 0) (.cons (.bin false .sub (.k (.int 4)) (.loc 4)) (.nil))))) (.nil)))))))) (.skip)) (.seq (.ite (.cmp .eq (.loc 3) (.k (.int 4))) (.ret (.ite (.loc 2) (.tup (.cons (.k (.str [105, 110])) (.cons (.call 16 (.cons (.loc 0) (.cons (.k (.int 4)) (.nil)))) (.nil)))) (.tup (.cons (.k (.str [97, 110, 121])) (.nil))))) (.skip)) (.seq (.ite (.cmp .eq (.loc 3) (.k (.int 5))) (.ret (.tup (.cons (.k (.str [110, 111, 116])) (.cons (.call 18 (.cons (.loc 0) (.cons (.bin false .sub (.loc 1) (.k (.int 1))) (.cons (.loc 2) (.nil))))) (.nil))))) (.skip)) (.ret (.tup (.cons (.call 17 (.cons (.loc 0) (.cons (.lst false (.cons (.k (.str [97, 110, 100])) (.cons (.k (.str [111, 114])) (.nil)))) (.nil)))) (.cons (.call 18 (.cons (.loc 0) (.cons (.bin false .sub (.loc 1) (.k (.int 1))) (.cons (.loc 2) (.nil))))) (.cons (.call 18 (.cons (.loc 0) (.cons (.bin false .sub (.loc 1) (.k (.int 1))) (.cons (.loc 2) (.nil))))) (.nil)))))))))
def f18 : Fn := ⟨3, 5, b18⟩
-- 19 _law_policy(cup, deep): cup deep way
def b19 : S := .seq (.asg (.v 2) (.ite (.cmp .gt (.loc 1) (.k (.int 0))) (.call 16 (.cons (.loc 0) (.cons (.k (.int 9)) (.nil)))) (.call 16 (.cons (.loc 0) (.cons (.k (.int 4)) (.nil)))))) (.seq (.ite (.cmp .eq (.loc 2) (.k (.int 0))) (.ret (.call 17 (.cons (.loc 0) (.cons (.lst false (.cons (.tup (.cons (.k (.str [100, 114, 111, 112])) (.nil))) (.cons (.tup (.cons (.k (.str [112, 97, 115, 115])) (.nil))) (.cons (.tup (.cons (.k (.str [112, 97, 115, 115])) (.nil))) (.nil))))) (.nil))))) (.skip)) (.seq (.ite (.cmp .eq (.loc 2) (.k (.int 1))) (.ret (.tup (.cons (.k (.str [115, 101, 116])) (.cons (.call 17 (.cons (.loc 0) (.cons (.lst false (.cons (.k (.str [102, 114, 111, 109])) (.cons (.k (.str [116, 111])) (.cons (.k (.str [109, 97, 114, 107])) (.nil))))) (.nil)))) (.cons (.call 16 (.cons (.loc 0) (.cons (.k (.int 4)) (.nil)))) (.nil)))))) (.skip)) (.seq (.ite (.cmp .lt (.loc 2) (.k (.int 4))) (.ret (.tup (.cons (.k (.str [111, 117, 116])) (.cons (.call 16 (.cons (.loc 0) (.cons (.k (.int 4)) (.nil)))) (.nil))))) (.skip)) (.seq (.ite (.cmp .lt (.loc 2) (.k (.int 6))) (.ret (.tup (.cons (.k (.str [116, 104, 101, 110])) (.cons (.call 19 (.cons (.loc 0) (.cons (.bin false .sub (.loc 1) (.k (.int 1))) (.nil)))) (.cons (.call 19 (.cons (.loc 0) (.cons (.bin false .sub (.loc 1) (.k (.int 1))) (.nil)))) (.nil)))))) (.skip)) (.seq (.ite (.cmp .eq (.loc 2) (.k (.int 6))) (.ret (.tup (.cons (.k (.str [98, 111, 116, 104])) (.cons (.call 19 (.cons (.loc 0) (.cons (.bin false .sub (.loc 1) (.k (.int 1))) (.nil)))) (.cons (.call 19 (.cons (.loc 0) (.cons (.bin false .sub (.loc 1) (.k (.int 1))) (.nil)))) (.nil)))))) (.skip)) (.seq (.ite (.cmp .eq (.loc 2) (.k (.int 7))) (.ret (.tup (.cons (.k (.str [105, 102])) (.cons (.call 18 (.cons (.loc 0) (.cons (.k (.int 1)) (.cons (.k (.bl true)) (.nil))))) (.cons (.call 19 (.cons (.loc 0) (.cons (.bin false .sub (.loc 1) (.k (.int 1))) (.nil)))) (.cons (.call 19 (.cons (.loc 0) (.cons (.bin false .sub (.loc 1) (.k (.int 1))) (.nil)))) (.nil))))))) (.skip)) (.ret (.tup (.cons (.k (.str [97, 116])) (.cons (.call 17 (.cons (.loc 0) (.cons (.lst false (.cons (.tup (.cons (.k (.int 0)) (.nil))) (.cons (.tup (.cons (.k (.int 1)) (.nil))) (.cons (.tup (.cons (.k (.int 0)) (.cons (.k (.int 1)) (.nil)))) (.cons (.tup (.cons (.k (.int 1)) (.cons (.k (.int 2)) (.nil)))) (.cons (.tup (.cons (.k (.int 0)) (.cons (.k (.int 2)) (.cons (.k (.int 3)) (.nil))))) (.nil))))))) (.nil)))) (.cons (.call 19 (.cons (.loc 0) (.cons (.bin false .sub (.loc 1) (.k (.int 1))) (.nil)))) (.nil))))))))))))
def f19 : Fn := ⟨2, 3, b19⟩
-- 20 _law_is_whole(value, low, high): value low high
def b20 : S := .ret (.and (.isi (.loc 0) .int) (.and (.not (.isi (.loc 0) .bool)) (.cmp2 .le .le (.loc 1) (.loc 0) (.loc 2))))
def f20 : Fn := ⟨3, 3, b20⟩
-- 21 _law_test_size(value): value fine part
def b21 : S := .seq (.ite (.or (.not (.isi (.loc 0) .tuple)) (.or (.cmp .eq (.bf false .len (.cons (.loc 0) (.nil))) (.k (.int 0))) (.not (.isi (.ix (.loc 0) (.k (.int 0))) .str)))) (.ret (.k (.non))) (.skip)) (.seq (.ite (.or (.cmp .eq (.loc 0) (.tup (.cons (.k (.str [97, 110, 121])) (.nil)))) (.and (.cmp .eq (.bf false .len (.cons (.loc 0) (.nil))) (.k (.int 2))) (.and (.cmp .eq (.ix (.loc 0) (.k (.int 0))) (.k (.str [105, 110]))) (.call 20 (.cons (.ix (.loc 0) (.k (.int 1))) (.cons (.k (.int 0)) (.cons (.k (.int 3)) (.nil)))))))) (.ret (.tup (.cons (.k (.int 1)) (.cons (.k (.int 1)) (.nil))))) (.skip)) (.seq (.ite (.cmp .eq (.ix (.loc 0) (.k (.int 0))) (.k (.str [102, 105, 101, 108, 100]))) (.seq (.asg (.v 1) (.and (.cmp .eq (.bf false .len (.cons (.loc 0) (.nil))) (.k (.int 4))) (.and (.cmp .in_ (.ix (.loc 0) (.k (.int 1))) (.lst false (.cons (.k (.str [102, 114, 111, 109])) (.cons (.k (.str [116, 111])) (.cons (.k (.str [109, 97, 114, 107])) (.nil)))))) (.call 20 (.cons (.ix (.loc 0) (.k (.int 2))) (.cons (.k (.int 0)) (.cons (.k (.int 3)) (.nil)))))))) (.ret (.ite (.and (.loc 1) (.call 20 (.cons (.ix (.loc 0) (.k (.int 3))) (.cons (.ix (.loc 0) (.k (.int 2))) (.cons (.k (.int 3)) (.nil)))))) (.tup (.cons (.k (.int 1)) (.cons (.k (.int 1)) (.nil)))) (.k (.non))))) (.skip)) (.seq (.ite (.cmp .ne (.bf false .len (.cons (.loc 0) (.nil))) (.dget [[110, 111, 116], [97, 110, 100], [111, 114]] (.cons (.k (.int 2)) (.cons (.k (.int 3)) (.cons (.k (.int 3)) (.nil)))) (.ix (.loc 0) (.k (.int 0))) (.k (.int 0)))) (.ret (.k (.non))) (.skip)) (.ret (.call 22 (.cons (.comp false [2] (.v 2) (.sl (.loc 0) (.k (.int 1)) (.k .non)) (.k (.bl true)) (.call 21 (.cons (.loc 2) (.nil)))) (.nil)))))))
def f21 : Fn := ⟨1, 3, b21⟩
-- 22 _law_over(told): told one
def b22 : S := .seq (.ite (.cmp .in_ (.k (.non)) (.loc 0)) (.ret (.k (.non))) (.skip)) (.ret (.tup (.cons (.bin false .add (.k (.int 1)) (.bf false .sum (.cons (.comp false [1] (.v 1) (.loc 0) (.k (.bl true)) (.ix (.loc 1) (.k (.int 0)))) (.nil)))) (.cons (.bin false .add (.k (.int 1)) (.bf false .max (.cons (.comp false [1] (.v 1) (.loc 0) (.k (.bl true)) (.ix (.loc 1) (.k (.int 1)))) (.nil)))) (.nil)))))
def f22 : Fn := ⟨1, 2, b22⟩
-- 23 _law_size(value): value own part
def b23 : S := .seq (.ite (.or (.not (.isi (.loc 0) .tuple)) (.or (.cmp .eq (.bf false .len (.cons (.loc 0) (.nil))) (.k (.int 0))) (.not (.isi (.ix (.loc 0) (.k (.int 0))) .str)))) (.ret (.k (.non))) (.skip)) (.seq (.ite (.or (.cmp .in_ (.loc 0) (.lst false (.cons (.tup (.cons (.k (.str [100, 114, 111, 112])) (.nil))) (.cons (.tup (.cons (.k (.str [112, 97, 115, 115])) (.nil))) (.nil))))) (.and (.cmp .eq (.bf false .len (.cons (.loc 0) (.nil))) (.k (.int 2))) (.and (.cmp .eq (.ix (.loc 0) (.k (.int 0))) (.k (.str [111, 117, 116]))) (.call 20 (.cons (.ix (.loc 0) (.k (.int 1))) (.cons (.k (.int 0)) (.cons (.k (.int 3)) (.nil)))))))) (.ret (.tup (.cons (.k (.int 1)) (.cons (.k (.int 1)) (.nil))))) (.skip)) (.seq (.ite (.cmp .eq (.ix (.loc 0) (.k (.int 0))) (.k (.str [115, 101, 116]))) (.ret (.ite (.and (.cmp .eq (.bf false .len (.cons (.loc 0) (.nil))) (.k (.int 3))) (.and (.cmp .in_ (.ix (.loc 0) (.k (.int 1))) (.lst false (.cons (.k (.str [102, 114, 111, 109])) (.cons (.k (.str [116, 111])) (.cons (.k (.str [109, 97, 114, 107])) (.nil)))))) (.call 20 (.cons (.ix (.loc 0) (.k (.int 2))) (.cons (.k (.int 0)) (.cons (.k (.int 3)) (.nil))))))) (.tup (.cons (.k (.int 1)) (.cons (.k (.int 1)) (.nil)))) (.k (.non)))) (.skip)) (.seq (.ite (.cmp .ne (.bf false .len (.cons (.loc 0) (.nil))) (.dget [[116, 104, 101, 110], [98, 111, 116, 104], [105, 102], [97, 116]] (.cons (.k (.int 3)) (.cons (.k (.int 3)) (.cons (.k (.int 4)) (.cons (.k (.int 3)) (.nil))))) (.ix (.loc 0) (.k (.int 0))) (.k (.int 0)))) (.ret (.k (.non))) (.skip)) (.seq (.ite (.cmp .eq (.ix (.loc 0) (.k (.int 0))) (.k (.str [105, 102]))) (.ret (.call 22 (.cons (.lst false (.cons (.call 21 (.cons (.ix (.loc 0) (.k (.int 1))) (.nil))) (.cons (.call 23 (.cons (.ix (.loc 0) (.k (.int 2))) (.nil))) (.cons (.call 23 (.cons (.ix (.loc 0) (.k (.int 3))) (.nil))) (.nil))))) (.nil)))) (.skip)) (.seq (.ite (.cmp .eq (.ix (.loc 0) (.k (.int 0))) (.k (.str [97, 116]))) (.seq (.ite (.or (.not (.isi (.ix (.loc 0) (.k (.int 1))) .tuple)) (.cmp .ne (.comp false [1] (.v 1) (.ix (.loc 0) (.k (.int 1))) (.not (.call 20 (.cons (.loc 1) (.cons (.k (.int 0)) (.cons (.k (.int 3)) (.nil)))))) (.loc 1)) (.lst false (.nil)))) (.ret (.k (.non))) (.skip)) (.ret (.ite (.and (.cmp .ne (.ix (.loc 0) (.k (.int 1))) (.tup (.nil))) (.cmp .eq (.bf false .list (.cons (.ix (.loc 0) (.k (.int 1))) (.nil))) (.bf false .sortset (.cons (.ix (.loc 0) (.k (.int 1))) (.nil))))) (.call 22 (.cons (.lst false (.cons (.call 23 (.cons (.ix (.loc 0) (.k (.int 2))) (.nil))) (.nil))) (.nil))) (.k (.non))))) (.skip)) (.ret (.call 22 (.cons (.comp false [2] (.v 2) (.sl (.loc 0) (.k (.int 1)) (.k .non)) (.k (.bl true)) (.call 23 (.cons (.loc 2) (.nil)))) (.nil)))))))))
def f23 : Fn := ⟨1, 3, b23⟩
-- 24 _law_lets(told): told
def b24 : S := .ret (.and (.cmp .isnot (.loc 0) (.k (.non))) (.and (.cmp .le (.ix (.loc 0) (.k (.int 0))) (.k (.int 60))) (.cmp .le (.ix (.loc 0) (.k (.int 1))) (.k (.int 12)))))
def f24 : Fn := ⟨1, 1, b24⟩
-- 25 _law_spoilt(cup, value): cup value some at way
def b25 : S := .seq (.ite (.or (.not (.isi (.loc 1) .tuple)) (.or (.cmp .eq (.loc 1) (.tup (.nil))) (.cmp .eq (.call 16 (.cons (.loc 0) (.cons (.k (.int 6)) (.nil)))) (.k (.int 0))))) (.seq (.asg (.v 2) (.lst false (.cons (.k (.non)) (.cons (.tup (.nil)) (.cons (.k (.int 0)) (.cons (.k (.int 3)) (.cons (.k (.int 4)) (.cons (.neg (.k (.int 1))) (.cons (.k (.bl true)) (.cons (.k (.str [102, 114, 111, 109])) (.cons (.k (.str [116, 111])) (.cons (.k (.str [115, 105, 122, 101])) (.cons (.k (.str [])) (.cons (.tup (.cons (.k (.str [97, 110, 121])) (.nil))) (.cons (.tup (.cons (.k (.str [100, 114, 111, 112])) (.nil))) (.cons (.tup (.cons (.k (.str [112, 97, 115, 115])) (.nil))) (.cons (.tup (.cons (.k (.str [111, 117, 116])) (.cons (.k (.int 4)) (.nil)))) (.cons (.tup (.cons (.k (.str [115, 101, 116])) (.cons (.k (.str [116, 111])) (.cons (.k (.int 3)) (.nil))))) (.cons (.tup (.cons (.k (.str [105, 110])) (.cons (.k (.int 4)) (.nil)))) (.cons (.lst false (.cons (.k (.int 0)) (.nil))) (.cons (.tup (.cons (.k (.int 0)) (.cons (.k (.int 1)) (.nil)))) (.cons (.tup (.cons (.k (.int 1)) (.cons (.k (.int 0)) (.nil)))) (.nil))))))))))))))))))))))) (.ret (.call 17 (.cons (.loc 0) (.cons (.loc 2) (.nil)))))) (.skip)) (.seq (.par (.t (.cons (.v 3) (.cons (.v 4) (.nil)))) (.cons (.call 16 (.cons (.loc 0) (.cons (.bf false .len (.cons (.loc 1) (.nil))) (.nil)))) (.cons (.call 16 (.cons (.loc 0) (.cons (.k (.int 9)) (.nil)))) (.nil)))) (.seq (.ite (.cmp .lt (.loc 4) (.k (.int 2))) (.ret (.bin false .add (.bin false .add (.sl (.loc 1) (.k .non) (.loc 3)) (.sl (.loc 1) (.bin false .add (.loc 3) (.loc 4)) (.k .non))) (.ite (.cmp .eq (.loc 4) (.k (.int 0))) (.sl (.loc 1) (.loc 3) (.bin false .add (.loc 3) (.k (.int 1)))) (.tup (.nil))))) (.skip)) (.ret (.ite (.cmp .eq (.loc 4) (.k (.int 2))) (.bf false .list (.cons (.loc 1) (.nil))) (.bin false .add (.bin false .add (.sl (.loc 1) (.k .non) (.loc 3)) (.tup (.cons (.call 25 (.cons (.loc 0) (.cons (.ix (.loc 1) (.loc 3)) (.nil)))) (.nil)))) (.sl (.loc 1) (.bin false .add (.loc 3) (.k (.int 1))) (.k .non)))))))
def f25 : Fn := ⟨2, 5, b25⟩
-- 26 _law_bounds_right(): deep chain wide full turn rows rest row
def b26 : S := .seq (.par (.t (.cons (.v 0) (.cons (.v 1) (.cons (.v 2) (.cons (.v 3) (.nil)))))) (.cons (.tup (.cons (.k (.str [112, 97, 115, 115])) (.nil))) (.cons (.tup (.cons (.k (.str [97, 110, 121])) (.nil))) (.cons (.tup (.cons (.k (.str [112, 97, 115, 115])) (.nil))) (.cons (.tup (.cons (.k (.str [97, 110, 121])) (.nil))) (.nil)))))) (.seq (.for_ (.v 4) (.rng (.k (.int 11))) (.par (.t (.cons (.v 0) (.cons (.v 1) (.nil)))) (.cons (.tup (.cons (.k (.str [97, 116])) (.cons (.tup (.cons (.k (.int 0)) (.nil))) (.cons (.loc 0) (.nil))))) (.cons (.tup (.cons (.k (.str [110, 111, 116])) (.cons (.loc 1) (.nil)))) (.nil))))) (.seq (.asg (.v 5) (.lst false (.cons (.tup (.cons (.loc 0) (.cons (.k (.bl true)) (.nil)))) (.cons (.tup (.cons (.tup (.cons (.k (.str [97, 116])) (.cons (.tup (.cons (.k (.int 0)) (.nil))) (.cons (.loc 0) (.nil))))) (.cons (.k (.bl false)) (.nil)))) (.cons (.tup (.cons (.ix (.loc 0) (.k (.int 2))) (.cons (.k (.bl true)) (.nil)))) (.cons (.tup (.cons (.tup (.cons (.k (.str [105, 102])) (.cons (.loc 1) (.cons (.tup (.cons (.k (.str [112, 97, 115, 115])) (.nil))) (.cons (.tup (.cons (.k (.str [112, 97, 115, 115])) (.nil))) (.nil)))))) (.cons (.k (.bl false)) (.nil)))) (.cons (.tup (.cons (.tup (.cons (.k (.str [105, 102])) (.cons (.ix (.loc 1) (.k (.int 1))) (.cons (.tup (.cons (.k (.str [112, 97, 115, 115])) (.nil))) (.cons (.tup (.cons (.k (.str [112, 97, 115, 115])) (.nil))) (.nil)))))) (.cons (.k (.bl true)) (.nil)))) (.nil)))))))) (.seq (.for_ (.v 4) (.rng (.k (.int 4))) (.par (.t (.cons (.v 2) (.cons (.v 3) (.nil)))) (.cons (.tup (.cons (.k (.str [98, 111, 116, 104])) (.cons (.loc 2) (.cons (.loc 2) (.nil))))) (.cons (.tup (.cons (.k (.str [97, 110, 100])) (.cons (.loc 3) (.cons (.loc 3) (.nil))))) (.nil))))) (.seq (.asg (.v 6) (.tup (.cons (.k (.str [116, 104, 101, 110])) (.cons (.tup (.cons (.k (.str [98, 111, 116, 104])) (.cons (.ix (.loc 2) (.k (.int 1))) (.cons (.tup (.cons (.k (.str [97, 116])) (.cons (.tup (.cons (.k (.int 0)) (.nil))) (.cons (.tup (.cons (.k (.str [98, 111, 116, 104])) (.cons (.tup (.cons (.k (.str [112, 97, 115, 115])) (.nil))) (.cons (.tup (.cons (.k (.str [112, 97, 115, 115])) (.nil))) (.nil))))) (.nil))))) (.nil))))) (.cons (.tup (.cons (.k (.str [98, 111, 116, 104])) (.cons (.tup (.cons (.k (.str [98, 111, 116, 104])) (.cons (.tup (.cons (.k (.str [112, 97, 115, 115])) (.nil))) (.cons (.tup (.cons (.k (.str [112, 97, 115, 115])) (.nil))) (.nil))))) (.cons (.tup (.cons (.k (.str [98, 111, 116, 104])) (.cons (.tup (.cons (.k (.str [112, 97, 115, 115])) (.nil))) (.cons (.tup (.cons (.k (.str [112, 97, 115, 115])) (.nil))) (.nil))))) (.nil))))) (.nil)))))) (.seq (.asg (.v 5) (.bin false .add (.loc 5) (.lst false (.cons (.tup (.cons (.loc 2) (.cons (.k (.bl true)) (.nil)))) (.cons (.tup (.cons (.tup (.cons (.k (.str [98, 111, 116, 104])) (.cons (.loc 2) (.cons (.loc 6) (.nil))))) (.cons (.k (.bl true)) (.nil)))) (.cons (.tup (.cons (.tup (.cons (.k (.str [98, 111, 116, 104])) (.cons (.loc 2) (.cons (.tup (.cons (.k (.str [97, 116])) (.cons (.tup (.cons (.k (.int 1)) (.nil))) (.cons (.loc 6) (.nil))))) (.nil))))) (.cons (.k (.bl false)) (.nil)))) (.cons (.tup (.cons (.tup (.cons (.k (.str [98, 111, 116, 104])) (.cons (.loc 2) (.cons (.loc 2) (.nil))))) (.cons (.k (.bl false)) (.nil)))) (.nil)))))))) (.seq (.ite (.cmp .ne (.comp false [7] (.v 7) (.loc 5) (.or (.cmp .ne (.call 14 (.cons (.ix (.loc 7) (.k (.int 0))) (.nil))) (.ix (.loc 7) (.k (.int 1)))) (.cmp .ne (.call 24 (.cons (.call 23 (.cons (.ix (.loc 7) (.k (.int 0))) (.nil))) (.nil))) (.ix (.loc 7) (.k (.int 1))))) (.loc 7)) (.lst false (.nil))) (.ret (.k (.bl false))) (.skip)) (.seq (.asg (.v 5) (.lst false (.cons (.tup (.cons (.loc 1) (.cons (.k (.bl true)) (.nil)))) (.cons (.tup (.cons (.tup (.cons (.k (.str [110, 111, 116])) (.cons (.loc 1) (.nil)))) (.cons (.k (.bl false)) (.nil)))) (.cons (.tup (.cons (.loc 3) (.cons (.k (.bl true)) (.nil)))) (.cons (.tup (.cons (.tup (.cons (.k (.str [97, 110, 100])) (.cons (.loc 3) (.cons (.loc 3) (.nil))))) (.cons (.k (.bl false)) (.nil)))) (.cons (.tup (.cons (.tup (.cons (.k (.str [110, 111, 116])) (.cons (.tup (.cons (.k (.str [97, 110, 100])) (.cons (.loc 3) (.cons (.ix (.loc 3) (.k (.int 1))) (.nil))))) (.nil)))) (.cons (.k (.bl true)) (.nil)))) (.nil)))))))) (.seq (.asg (.v 6) (.tup (.cons (.k (.str [97, 110, 100])) (.cons (.ix (.loc 3) (.k (.int 1))) (.cons (.tup (.cons (.k (.str [97, 110, 100])) (.cons (.ix (.ix (.loc 3) (.k (.int 1))) (.k (.int 1))) (.cons (.tup (.cons (.k (.str [97, 110, 100])) (.cons (.tup (.cons (.k (.str [97, 110, 121])) (.nil))) (.cons (.tup (.cons (.k (.str [110, 111, 116])) (.cons (.tup (.cons (.k (.str [97, 110, 121])) (.nil))) (.nil)))) (.nil))))) (.nil))))) (.nil)))))) (.seq (.asg (.v 5) (.bin false .add (.loc 5) (.lst false (.cons (.tup (.cons (.tup (.cons (.k (.str [97, 110, 100])) (.cons (.loc 3) (.cons (.loc 6) (.nil))))) (.cons (.k (.bl true)) (.nil)))) (.cons (.tup (.cons (.tup (.cons (.k (.str [110, 111, 116])) (.cons (.tup (.cons (.k (.str [97, 110, 100])) (.cons (.loc 3) (.cons (.loc 6) (.nil))))) (.nil)))) (.cons (.k (.bl false)) (.nil)))) (.cons (.tup (.cons (.tup (.cons (.k (.str [97, 110, 100])) (.cons (.tup (.cons (.k (.str [110, 111, 116])) (.cons (.loc 3) (.nil)))) (.cons (.loc 6) (.nil))))) (.cons (.k (.bl false)) (.nil)))) (.nil))))))) (.ret (.cmp .eq (.comp false [7] (.v 7) (.loc 5) (.or (.cmp .ne (.call 13 (.cons (.ix (.loc 7) (.k (.int 0))) (.nil))) (.ix (.loc 7) (.k (.int 1)))) (.cmp .ne (.call 24 (.cons (.call 21 (.cons (.ix (.loc 7) (.k (.int 0))) (.nil))) (.nil))) (.ix (.loc 7) (.k (.int 1))))) (.loc 7)) (.lst false (.nil)))))))))))))
def f26 : Fn := ⟨0, 8, b26⟩
-- 27 law(script): script cup turn test policy odd rows drop row
def b27 : S := .seq (.asg (.v 1) (.call 15 (.cons (.loc 0) (.nil)))) (.seq (.for_ (.v 2) (.rng (.k (.int 4))) (.seq (.par (.t (.cons (.v 3) (.cons (.v 4) (.nil)))) (.cons (.call 18 (.cons (.loc 1) (.cons (.k (.int 2)) (.cons (.k (.bl true)) (.nil))))) (.cons (.call 19 (.cons (.loc 1) (.cons (.k (.int 3)) (.nil)))) (.nil)))) (.seq (.ite (.or (.cmp .isnot (.call 13 (.cons (.loc 3) (.nil))) (.k (.bl true))) (.cmp .isnot (.call 14 (.cons (.loc 4) (.nil))) (.k (.bl true)))) (.ret (.k (.bl false))) (.skip)) (.for_ (.v 5) (.tup (.cons (.call 25 (.cons (.loc 1) (.cons (.loc 3) (.nil)))) (.cons (.call 25 (.cons (.loc 1) (.cons (.loc 4) (.nil)))) (.cons (.call 25 (.cons (.loc 1) (.cons (.loc 4) (.nil)))) (.nil))))) (.ite (.or (.cmp .ne (.call 13 (.cons (.loc 5) (.nil))) (.call 24 (.cons (.call 21 (.cons (.loc 5) (.nil))) (.nil)))) (.cmp .ne (.call 14 (.cons (.loc 5) (.nil))) (.call 24 (.cons (.call 23 (.cons (.loc 5) (.nil))) (.nil))))) (.ret (.k (.bl false))) (.skip)))))) (.seq (.asg (.v 6) (.lst false (.cons (.tup (.cons (.tup (.cons (.k (.str [102, 105, 101, 108, 100])) (.cons (.k (.str [102, 114, 111, 109])) (.cons (.k (.int 0)) (.cons (.k (.int 3)) (.nil)))))) (.cons (.k (.bl true)) (.nil)))) (.cons (.tup (.cons (.tup (.cons (.k (.str [102, 105, 101, 108, 100])) (.cons (.k (.str [102, 114, 111, 109])) (.cons (.k (.int 2)) (.cons (.k (.int 1)) (.nil)))))) (.cons (.k (.bl false)) (.nil)))) (.cons (.tup (.cons (.tup (.cons (.k (.str [102, 105, 101, 108, 100])) (.cons (.k (.str [102, 114, 111, 109])) (.cons (.k (.int 0)) (.cons (.k (.int 4)) (.nil)))))) (.cons (.k (.bl false)) (.nil)))) (.cons (.tup (.cons (.tup (.cons (.k (.str [102, 105, 101, 108, 100])) (.cons (.k (.str [102, 114, 111, 109])) (.cons (.neg (.k (.int 1))) (.cons (.k (.int 0)) (.nil)))))) (.cons (.k (.bl false)) (.nil)))) (.nil))))))) (.seq (.asg (.v 6) (.bin false .add (.loc 6) (.lst false (.cons (.tup (.cons (.tup (.cons (.k (.str [102, 105, 101, 108, 100])) (.cons (.k (.str [115, 105, 122, 101])) (.cons (.k (.int 0)) (.cons (.k (.int 1)) (.nil)))))) (.cons (.k (.bl false)) (.nil)))) (.cons (.tup (.cons (.tup (.cons (.k (.str [102, 105, 101, 108, 100])) (.cons (.k (.str [116, 111])) (.cons (.k (.int 1)) (.nil))))) (.cons (.k (.bl false)) (.nil)))) (.cons (.tup (.cons (.tup (.cons (.k (.str [105, 110])) (.cons (.k (.int 3)) (.nil)))) (.cons (.k (.bl true)) (.nil)))) (.cons (.tup (.cons (.tup (.cons (.k (.str [105, 110])) (.cons (.k (.int 4)) (.nil)))) (.cons (.k (.bl false)) (.nil)))) (.cons (.tup (.cons (.tup (.cons (.k (.str [105, 110])) (.cons (.k (.bl true)) (.nil)))) (.cons (.k (.bl false)) (.nil)))) (.nil))))))))) (.seq (.asg (.v 6) (.bin false .add (.loc 6) (.lst false (.cons (.tup (.cons (.tup (.cons (.k (.str [97, 110, 121])) (.cons (.k (.int 0)) (.nil)))) (.cons (.k (.bl false)) (.nil)))) (.cons (.tup (.cons (.tup (.cons (.k (.str [110, 111, 116])) (.nil))) (.cons (.k (.bl false)) (.nil)))) (.cons (.tup (.cons (.tup (.cons (.k (.str [97, 110, 100])) (.cons (.tup (.cons (.k (.str [97, 110, 121])) (.nil))) (.nil)))) (.cons (.k (.bl false)) (.nil)))) (.cons (.tup (.cons (.tup (.cons (.k (.str [111, 114])) (.cons (.tup (.cons (.k (.str [97, 110, 121])) (.nil))) (.cons (.tup (.cons (.k (.str [97, 110, 121])) (.nil))) (.cons (.tup (.cons (.k (.str [97, 110, 121])) (.nil))) (.nil)))))) (.cons (.k (.bl false)) (.nil)))) (.cons (.tup (.cons (.lst false (.cons (.k (.str [97, 110, 121])) (.nil))) (.cons (.k (.bl false)) (.nil)))) (.nil))))))))) (.seq (.asg (.v 6) (.bin false .add (.loc 6) (.lst false (.cons (.tup (.cons (.k (.str [97, 110, 121])) (.cons (.k (.bl false)) (.nil)))) (.cons (.tup (.cons (.k (.non)) (.cons (.k (.bl false)) (.nil)))) (.cons (.tup (.cons (.tup (.nil)) (.cons (.k (.bl false)) (.nil)))) (.cons (.tup (.cons (.tup (.cons (.k (.non)) (.nil))) (.cons (.k (.bl false)) (.nil)))) (.cons (.tup (.cons (.tup (.cons (.k (.str [102, 105, 101, 108, 100])) (.cons (.k (.non)) (.cons (.k (.int 0)) (.cons (.k (.int 1)) (.nil)))))) (.cons (.k (.bl false)) (.nil)))) (.cons (.tup (.cons (.tup (.cons (.k (.str [110, 111, 116])) (.cons (.tup (.cons (.k (.str [112, 97, 115, 115])) (.nil))) (.nil)))) (.cons (.k (.bl false)) (.nil)))) (.nil)))))))))) (.seq (.ite (.cmp .ne (.comp false [8] (.v 8) (.loc 6) (.cmp .ne (.call 13 (.cons (.ix (.loc 8) (.k (.int 0))) (.nil))) (.ix (.loc 8) (.k (.int 1)))) (.loc 8)) (.lst false (.nil))) (.ret (.k (.bl false))) (.skip)) (.seq (.asg (.v 7) (.tup (.cons (.k (.str [100, 114, 111, 112])) (.nil)))) (.seq (.asg (.v 6) (.lst false (.cons (.tup (.cons (.tup (.cons (.k (.str [111, 117, 116])) (.cons (.k (.int 3)) (.nil)))) (.cons (.k (.bl true)) (.nil)))) (.cons (.tup (.cons (.tup (.cons (.k (.str [111, 117, 116])) (.cons (.k (.int 4)) (.nil)))) (.cons (.k (.bl false)) (.nil)))) (.cons (.tup (.cons (.tup (.cons (.k (.str [111, 117, 116])) (.nil))) (.cons (.k (.bl false)) (.nil)))) (.cons (.tup (.cons (.tup (.cons (.k (.str [115, 101, 116])) (.cons (.k (.str [109, 97, 114, 107])) (.cons (.k (.int 3)) (.nil))))) (.cons (.k (.bl true)) (.nil)))) (.cons (.tup (.cons (.tup (.cons (.k (.str [115, 101, 116])) (.cons (.k (.str [109, 97, 114, 107])) (.cons (.k (.int 4)) (.nil))))) (.cons (.k (.bl false)) (.nil)))) (.cons (.tup (.cons (.tup (.cons (.k (.str [115, 101, 116])) (.cons (.k (.str [115, 105, 122, 101])) (.cons (.k (.int 0)) (.nil))))) (.cons (.k (.bl false)) (.nil)))) (.nil))))))))) (.seq (.asg (.v 6) (.bin false .add (.loc 6) (.lst false (.cons (.tup (.cons (.tup (.cons (.k (.str [115, 101, 116])) (.cons (.k (.str [109, 97, 114, 107])) (.cons (.k (.bl true)) (.nil))))) (.cons (.k (.bl false)) (.nil)))) (.cons (.tup (.cons (.tup (.cons (.k (.str [97, 116])) (.cons (.tup (.cons (.k (.int 0)) (.cons (.k (.int 1)) (.cons (.k (.int 2)) (.cons (.k (.int 3)) (.nil)))))) (.cons (.loc 7) (.nil))))) (.cons (.k (.bl true)) (.nil)))) (.cons (.tup (.cons (.tup (.cons (.k (.str [97, 116])) (.cons (.tup (.nil)) (.cons (.loc 7) (.nil))))) (.cons (.k (.bl false)) (.nil)))) (.cons (.tup (.cons (.tup (.cons (.k (.str [97, 116])) (.cons (.tup (.cons (.k (.int 1)) (.cons (.k (.int 0)) (.nil)))) (.cons (.loc 7) (.nil))))) (.cons (.k (.bl false)) (.nil)))) (.nil)))))))) (.seq (.asg (.v 6) (.bin false .add (.loc 6) (.lst false (.cons (.tup (.cons (.tup (.cons (.k (.str [97, 116])) (.cons (.tup (.cons (.k (.int 0)) (.cons (.k (.int 0)) (.nil)))) (.cons (.loc 7) (.nil))))) (.cons (.k (.bl false)) (.nil)))) (.cons (.tup (.cons (.tup (.cons (.k (.str [97, 116])) (.cons (.tup (.cons (.k (.int 4)) (.nil))) (.cons (.loc 7) (.nil))))) (.cons (.k (.bl false)) (.nil)))) (.cons (.tup (.cons (.tup (.cons (.k (.str [97, 116])) (.cons (.lst false (.cons (.k (.int 0)) (.nil))) (.cons (.loc 7) (.nil))))) (.cons (.k (.bl false)) (.nil)))) (.cons (.tup (.cons (.tup (.cons (.k (.str [97, 116])) (.cons (.k (.int 0)) (.cons (.loc 7) (.nil))))) (.cons (.k (.bl false)) (.nil)))) (.cons (.tup (.cons (.tup (.cons (.k (.str [97, 116])) (.cons (.tup (.cons (.k (.int 0)) (.nil))) (.nil)))) (.cons (.k (.bl false)) (.nil)))) (.nil))))))))) (.seq (.asg (.v 6) (.bin false .add (.loc 6) (.lst false (.cons (.tup (.cons (.tup (.cons (.k (.str [105, 102])) (.cons (.tup (.cons (.k (.str [97, 110, 121])) (.nil))) (.cons (.loc 7) (.cons (.loc 7) (.nil)))))) (.cons (.k (.bl true)) (.nil)))) (.cons (.tup (.cons (.tup (.cons (.k (.str [105, 102])) (.cons (.tup (.cons (.k (.str [97, 110, 121])) (.nil))) (.cons (.loc 7) (.nil))))) (.cons (.k (.bl false)) (.nil)))) (.cons (.tup (.cons (.tup (.cons (.k (.str [105, 102])) (.cons (.loc 7) (.cons (.loc 7) (.cons (.loc 7) (.nil)))))) (.cons (.k (.bl false)) (.nil)))) (.cons (.tup (.cons (.tup (.cons (.k (.str [116, 104, 101, 110])) (.cons (.loc 7) (.nil)))) (.cons (.k (.bl false)) (.nil)))) (.nil)))))))) (.seq (.asg (.v 6) (.bin false .add (.loc 6) (.lst false (.cons (.tup (.cons (.tup (.cons (.k (.str [98, 111, 116, 104])) (.cons (.loc 7) (.cons (.tup (.cons (.k (.str [97, 110, 121])) (.nil))) (.nil))))) (.cons (.k (.bl false)) (.nil)))) (.cons (.tup (.cons (.tup (.cons (.k (.str [112, 97, 115, 115])) (.cons (.loc 7) (.nil)))) (.cons (.k (.bl false)) (.nil)))) (.cons (.tup (.cons (.bin false .add (.loc 7) (.tup (.cons (.k (.int 0)) (.nil)))) (.cons (.k (.bl false)) (.nil)))) (.cons (.tup (.cons (.lst false (.cons (.k (.str [100, 114, 111, 112])) (.nil))) (.cons (.k (.bl false)) (.nil)))) (.cons (.tup (.cons (.k (.non)) (.cons (.k (.bl false)) (.nil)))) (.cons (.tup (.cons (.tup (.nil)) (.cons (.k (.bl false)) (.nil)))) (.cons (.tup (.cons (.k (.str [100, 114, 111, 112])) (.cons (.k (.bl false)) (.nil)))) (.nil))))))))))) (.ret (.and (.cmp .eq (.comp false [8] (.v 8) (.loc 6) (.cmp .ne (.call 14 (.cons (.ix (.loc 8) (.k (.int 0))) (.nil))) (.ix (.loc 8) (.k (.int 1)))) (.loc 8)) (.lst false (.nil))) (.call 26 (.nil))))))))))))))))
def f27 : Fn := ⟨1, 9, b27⟩
def fns : List Fn := [f0, f1, f2, f3, f4, f5, f6, f7, f8, f9, f10, f11, f12, f13, f14, f15, f16, f17, f18, f19, f20, f21, f22, f23, f24, f25, f26, f27]
def prg : Prg := ⟨fns, con⟩
end P00
set_option maxHeartbeats 1000000
namespace P00
open Pv
def go (b : S) (np nl n : Nat) (l : List PV) (m : Mem) : R PV := bnd (evS con (run prg n) b (l.map some ++ List.replicate (nl - np) none) m) fin
theorem r0 (n : Nat) (a b c : PV) (m : Mem) : run prg (n + 1) 0 [a, b, c] m = go b0 3 3 n [a, b, c] m := rfl
theorem r20 (n : Nat) (a b c : PV) (m : Mem) : run prg (n + 1) 20 [a, b, c] m = go b20 3 3 n [a, b, c] m := rfl
theorem r1 (n : Nat) (a b c : PV) (m : Mem) : run prg (n + 1) 1 [a, b, c] m = go b1 3 3 n [a, b, c] m := rfl
theorem r2 (n : Nat) (a b : PV) (m : Mem) : run prg (n + 1) 2 [a, b] m = go b2 2 2 n [a, b] m := rfl
theorem r3 (n : Nat) (a b c : PV) (m : Mem) : run prg (n + 1) 3 [a, b, c] m = go b3 3 3 n [a, b, c] m := rfl
theorem r5 (n : Nat) (a : PV) (m : Mem) : run prg (n + 1) 5 [a] m = go b5 1 1 n [a] m := rfl
theorem r6 (n : Nat) (a b c : PV) (m : Mem) : run prg (n + 1) 6 [a, b, c] m = go b6 3 6 n [a, b, c] m := rfl
def isW (v : PV) (lo hi : Int) : Bool := match v with
  | .int i => decide (lo ≤ i) && decide (i ≤ hi)
  | _ => false
theorem is_whole {n : Nat} {v : PV} {lo hi : Int} {m : Mem} (hv : v.isD = true) : run prg (n + 1) 0 [v, .int lo, .int hi] m = .ok (.bl (isW v lo hi)) m := by
  rw [r0]
  cases v <;> first | (cases hv; done) | skip
  all_goals simp [go, b0, x_k, x_loc, x_glo, x_bin, x_neg, x_not, x_and, x_or, x_cmp, x_cmp2, x_ite, x_nil, x_cons, x_tup, x_lst, x_ix, x_sl, x_call, x_bf, x_isi, x_rng, x_zip, x_comp, x_dget, s_skip, s_seq, s_ex, s_ret, s_asg, s_par, s_ite, s_for, thenS_next, thenS_ret, fin_ret, fin_next, ob_some, obl_bl, bnd_if, lft_if, unl, bnd_ok, bnd_no, lft_some, lft_none, isTy, truth, cmpop, isW]
  split <;> simp_all <;> omega
theorem law_is_whole {n : Nat} {v : PV} {lo hi : Int} {m : Mem} (hv : v.isD = true) : run prg (n + 1) 20 [v, .int lo, .int hi] m = .ok (.bl (isW v lo hi)) m := is_whole hv
theorem is_tuple_of {n : Nat} {v : PV} {lo hi : Int} {m : Mem} (hv : v.isD = true) : run prg (n + 1) 1 [v, .int lo, .int hi] m = .ok (.bl (match v with | .tup l => decide (lo ≤ l.length) && decide ((l.length : Int) ≤ hi) | _ => false)) m := by
  rw [r1]
  cases v <;> first | (cases hv; done) | skip
  all_goals simp [go, b1, x_k, x_loc, x_glo, x_bin, x_neg, x_not, x_and, x_or, x_cmp, x_cmp2, x_ite, x_nil, x_cons, x_tup, x_lst, x_ix, x_sl, x_call, x_bf, x_isi, x_rng, x_zip, x_comp, x_dget, s_skip, s_seq, s_ex, s_ret, s_asg, s_par, s_ite, s_for, thenS_next, thenS_ret, fin_ret, fin_next, ob_some, obl_bl, bnd_if, lft_if, unl, bnd_ok, bnd_no, lft_some, lft_none, isTy, truth, cmpop, callB, vw]
  split <;> simp_all <;> omega
def isF (v : PV) : Bool := anyEq v [.str [102, 114, 111, 109], .str [116, 111], .str [109, 97, 114, 107]]
theorem is_word {n : Nat} {v : PV} {m : Mem} (hv : v.isD = true) : run prg (n + 1) 2 [v, .tup [.str [102, 114, 111, 109], .str [116, 111], .str [109, 97, 114, 107]]] m = .ok (.bl (isF v)) m := by
  rw [r2]
  cases v <;> first | (cases hv; done) | skip
  all_goals simp [go, b2, x_k, x_loc, x_glo, x_bin, x_neg, x_not, x_and, x_or, x_cmp, x_cmp2, x_ite, x_nil, x_cons, x_tup, x_lst, x_ix, x_sl, x_call, x_bf, x_isi, x_rng, x_zip, x_comp, x_dget, s_skip, s_seq, s_ex, s_ret, s_asg, s_par, s_ite, s_for, thenS_next, thenS_ret, fin_ret, fin_next, ob_some, obl_bl, bnd_if, lft_if, unl, bnd_ok, bnd_no, lft_some, lft_none, isTy, truth, cmpop, isF, D_non, D_bl, D_int, D_str, D_tup, D_lst, P_non, P_bl, P_int, P_str, P_tup, P_lst, P_nil, P_cons, eqM_d, isIn_t, isIn_l, anyEq, PV.eqv]
def hdd (v : PV) : Bool := match v with
  | .tup [.str _] => true
  | .tup [.str _, _] => true
  | .tup [.str _, _, _] => true
  | .tup [.str _, _, _, _] => true
  | _ => false
theorem is_headed {n : Nat} {v : PV} {m : Mem} (hv : v.flat = true) : run prg (n + 2) 3 [v, .int 1, .int 4] m = .ok (.bl (hdd v)) m := by
  have hd : v.isD = true := flat_D hv
  rw [r3]
  have key := is_tuple_of (n := n) (v := v) (lo := 1) (hi := 4) (m := m) hd
  cases v with
  | tup l =>
    rcases l with _ | ⟨a, _ | ⟨b, _ | ⟨c, _ | ⟨d, _ | ⟨e, r⟩⟩⟩⟩⟩
    · simp [go, b3, x_k, x_loc, x_glo, x_bin, x_neg, x_not, x_and, x_or, x_cmp, x_cmp2, x_ite, x_nil, x_cons, x_tup, x_lst, x_ix, x_sl, x_call, x_bf, x_isi, x_rng, x_zip, x_comp, x_dget, s_skip, s_seq, s_ex, s_ret, s_asg, s_par, s_ite, s_for, thenS_next, thenS_ret, fin_ret, fin_next, ob_some, obl_bl, bnd_if, lft_if, unl, bnd_ok, bnd_no, lft_some, lft_none, key, hdd]
    · cases a <;> simp [F_non, F_bl, F_int, F_str, F_tup, F_lst, F_cell, F_fn, F_nil, F_cons] at hv <;> simp [go, b3, x_k, x_loc, x_glo, x_bin, x_neg, x_not, x_and, x_or, x_cmp, x_cmp2, x_ite, x_nil, x_cons, x_tup, x_lst, x_ix, x_sl, x_call, x_bf, x_isi, x_rng, x_zip, x_comp, x_dget, s_skip, s_seq, s_ex, s_ret, s_asg, s_par, s_ite, s_for, thenS_next, thenS_ret, fin_ret, fin_next, ob_some, obl_bl, bnd_if, lft_if, unl, bnd_ok, bnd_no, lft_some, lft_none, key, hdd, item, vw, atI, isTy]
    · cases a <;> simp [F_non, F_bl, F_int, F_str, F_tup, F_lst, F_cell, F_fn, F_nil, F_cons] at hv <;> simp [go, b3, x_k, x_loc, x_glo, x_bin, x_neg, x_not, x_and, x_or, x_cmp, x_cmp2, x_ite, x_nil, x_cons, x_tup, x_lst, x_ix, x_sl, x_call, x_bf, x_isi, x_rng, x_zip, x_comp, x_dget, s_skip, s_seq, s_ex, s_ret, s_asg, s_par, s_ite, s_for, thenS_next, thenS_ret, fin_ret, fin_next, ob_some, obl_bl, bnd_if, lft_if, unl, bnd_ok, bnd_no, lft_some, lft_none, key, hdd, item, vw, atI, isTy]
    · cases a <;> simp [F_non, F_bl, F_int, F_str, F_tup, F_lst, F_cell, F_fn, F_nil, F_cons] at hv <;> simp [go, b3, x_k, x_loc, x_glo, x_bin, x_neg, x_not, x_and, x_or, x_cmp, x_cmp2, x_ite, x_nil, x_cons, x_tup, x_lst, x_ix, x_sl, x_call, x_bf, x_isi, x_rng, x_zip, x_comp, x_dget, s_skip, s_seq, s_ex, s_ret, s_asg, s_par, s_ite, s_for, thenS_next, thenS_ret, fin_ret, fin_next, ob_some, obl_bl, bnd_if, lft_if, unl, bnd_ok, bnd_no, lft_some, lft_none, key, hdd, item, vw, atI, isTy]
    · cases a <;> simp [F_non, F_bl, F_int, F_str, F_tup, F_lst, F_cell, F_fn, F_nil, F_cons] at hv <;> simp [go, b3, x_k, x_loc, x_glo, x_bin, x_neg, x_not, x_and, x_or, x_cmp, x_cmp2, x_ite, x_nil, x_cons, x_tup, x_lst, x_ix, x_sl, x_call, x_bf, x_isi, x_rng, x_zip, x_comp, x_dget, s_skip, s_seq, s_ex, s_ret, s_asg, s_par, s_ite, s_for, thenS_next, thenS_ret, fin_ret, fin_next, ob_some, obl_bl, bnd_if, lft_if, unl, bnd_ok, bnd_no, lft_some, lft_none, key, hdd, item, vw, atI, isTy]
    · have : ¬ ((r.length : Int) + 1 + 1 + 1 + 1 + 1 ≤ 4) := by omega
      simp [go, b3, x_k, x_loc, x_glo, x_bin, x_neg, x_not, x_and, x_or, x_cmp, x_cmp2, x_ite, x_nil, x_cons, x_tup, x_lst, x_ix, x_sl, x_call, x_bf, x_isi, x_rng, x_zip, x_comp, x_dget, s_skip, s_seq, s_ex, s_ret, s_asg, s_par, s_ite, s_for, thenS_next, thenS_ret, fin_ret, fin_next, ob_some, obl_bl, bnd_if, lft_if, unl, bnd_ok, bnd_no, lft_some, lft_none, key, hdd, this]
  | _ => first | (simp [F_non, F_bl, F_int, F_str, F_tup, F_lst, F_cell, F_fn, F_nil, F_cons] at hv; done) | simp [go, b3, x_k, x_loc, x_glo, x_bin, x_neg, x_not, x_and, x_or, x_cmp, x_cmp2, x_ite, x_nil, x_cons, x_tup, x_lst, x_ix, x_sl, x_call, x_bf, x_isi, x_rng, x_zip, x_comp, x_dget, s_skip, s_seq, s_ex, s_ret, s_asg, s_par, s_ite, s_for, thenS_next, thenS_ret, fin_ret, fin_next, ob_some, obl_bl, bnd_if, lft_if, unl, bnd_ok, bnd_no, lft_some, lft_none, key, hdd]
end P00
set_option maxHeartbeats 4000000
namespace P00
open Pv
theorem con0 : con[0]? = some (.tup [.str [102, 114, 111, 109], .str [116, 111], .str [109, 97, 114, 107]]) := rfl
theorem con1 : con[1]? = some (.int 3) := rfl
theorem con2 : con[2]? = some (.int 4) := rfl
theorem con3 : con[3]? = some (.int 4) := rfl
theorem con4 : con[4]? = some (.int 60) := rfl
theorem con5 : con[5]? = some (.int 12) := rfl
/-- the low bound is the other value -/
def isV (v lo : PV) : Bool := match lo with
  | .int i => isW v i 3
  | _ => false
def fieldB (a b c : PV) : Bool := isF a && isW b 0 3 && isV c b
theorem is_field {n : Nat} {s a b c : PV} {m : Mem} (ha : a.isD = true) (hb : b.isD = true) (hc : c.isD = true) : run prg (n + 2) 5 [.tup [s, a, b, c]] m = .ok (.bl (fieldB a b c)) m := by
  rw [r5]
  simp [go, b5, x_k, x_loc, x_glo, x_bin, x_neg, x_not, x_and, x_or, x_cmp, x_cmp2, x_ite, x_nil, x_cons, x_tup, x_lst, x_ix, x_sl, x_call, x_bf, x_isi, x_rng, x_zip, x_comp, x_dget, s_skip, s_seq, s_ex, s_ret, s_asg, s_par, s_ite, s_for, thenS_next, thenS_ret, fin_ret, fin_next, ob_some, obl_bl, bnd_if, lft_if, unl, bnd_ok, bnd_no, lft_some, lft_none, truth, cmpop, callB, vw, item, atI, con0, con1, is_word ha, is_whole hb, D_non, D_bl, D_int, D_str, D_tup, D_lst, P_non, P_bl, P_int, P_str, P_tup, P_lst, P_nil, P_cons, eqM_d, isIn_t, isIn_l, PV.eqv]
  cases h1 : isF a with
  | false => simp [fieldB, h1]
  | true =>
    cases h2 : isW b 0 3 with
    | false => simp [fieldB, h1, h2]
    | true =>
      cases b <;> first | (simp [isW] at h2; done) | skip
      rw [is_whole hc]
      simp [fieldB, h1, h2, isV, fin_ret]
theorem is_field_no {n : Nat} {l : List PV} {m : Mem} (h : l.length ≠ 4) : run prg (n + 2) 5 [.tup l] m = .ok (.bl false) m := by
  rw [r5]
  have h1 : ((l.length : Int) == 4) = false := by simp; omega
  simp [go, b5, x_k, x_loc, x_glo, x_bin, x_neg, x_not, x_and, x_or, x_cmp, x_cmp2, x_ite, x_nil, x_cons, x_tup, x_lst, x_ix, x_sl, x_call, x_bf, x_isi, x_rng, x_zip, x_comp, x_dget, s_skip, s_seq, s_ex, s_ret, s_asg, s_par, s_ite, s_for, thenS_next, thenS_ret, fin_ret, fin_next, ob_some, obl_bl, bnd_if, lft_if, unl, bnd_ok, bnd_no, lft_some, lft_none, truth, cmpop, callB, vw, D_non, D_bl, D_int, D_str, D_tup, D_lst, P_non, P_bl, P_int, P_str, P_tup, P_lst, P_nil, P_cons, eqM_d, isIn_t, isIn_l, PV.eqv, h1]
def tl : Nat → PV → Int → Int
  | 0, _, _ => -1
  | h + 1, .tup [.str s], m => if m = 0 then -1 else if s = [97, 110, 121] then m - 1 else -1
  | h + 1, .tup [.str s, a], m => if m = 0 then -1 else if s = [105, 110] ∧ isW a 0 3 = true then m - 1 else if s = [110, 111, 116] then (if 0 ≤ m - 1 then tl h a (m - 1) else -1) else -1
  | h + 1, .tup [.str s, a, b], m => if m = 0 then -1 else if s = [97, 110, 100] ∨ s = [111, 114] then (if 0 ≤ (if 0 ≤ m - 1 then tl h a (m - 1) else -1) then tl h b (if 0 ≤ m - 1 then tl h a (m - 1) else -1) else -1) else -1
  | h + 1, .tup [.str s, a, b, c], m => if m = 0 then -1 else if s = [102, 105, 101, 108, 100] ∧ fieldB a b c = true then m - 1 else -1
  | _ + 1, _, _ => -1
theorem tl_zero (h : Nat) (v : PV) : tl h v 0 = -1 := by
  cases h with
  | zero => rfl
  | succ h => unfold tl; split <;> simp
theorem tl_hdd {h : Nat} {v : PV} {m : Int} (e : hdd v = false) : tl (h + 1) v m = -1 := by
  unfold tl
  split <;> first | (simp [hdd] at e; done) | rfl
theorem test_left : ∀ (h n : Nat) (v : PV) (m : Int) (mem : Mem), v.flat = true → run prg (n + h + 3) 6 [v, .int h, .int m] mem = .ok (.int (tl h v m)) mem := by
  intro h
  induction h with
  | zero =>
    intro n v m mem hv
    rw [show n + 0 + 3 = (n + 2) + 1 from rfl, r6]
    simp [go, b6, x_k, x_loc, x_glo, x_bin, x_neg, x_not, x_and, x_or, x_cmp, x_cmp2, x_ite, x_nil, x_cons, x_tup, x_lst, x_ix, x_sl, x_call, x_bf, x_isi, x_rng, x_zip, x_comp, x_dget, s_skip, s_seq, s_ex, s_ret, s_asg, s_par, s_ite, s_for, thenS_next, thenS_ret, fin_ret, fin_next, ob_some, obl_bl, bnd_if, lft_if, unl, bnd_ok, bnd_no, lft_some, lft_none, truth, cmpop, D_non, D_bl, D_int, D_str, D_tup, D_lst, P_non, P_bl, P_int, P_str, P_tup, P_lst, P_nil, P_cons, eqM_d, isIn_t, isIn_l, PV.eqv, tl]
  | succ h ih =>
    intro n v m mem hv
    rw [show n + (h + 1) + 3 = (n + h + 3) + 1 from by omega, r6]
    have e1 : ((h + 1 : Nat) : Int) ≠ 0 := by omega
    have e2 : ((h : Int) + 1 = 0) = False := by simp; omega
    have hh := is_headed (n := n + h + 1) (m := mem) hv
    by_cases hm : m = 0
    · subst hm
      simp [go, b6, x_k, x_loc, x_glo, x_bin, x_neg, x_not, x_and, x_or, x_cmp, x_cmp2, x_ite, x_nil, x_cons, x_tup, x_lst, x_ix, x_sl, x_call, x_bf, x_isi, x_rng, x_zip, x_comp, x_dget, s_skip, s_seq, s_ex, s_ret, s_asg, s_par, s_ite, s_for, thenS_next, thenS_ret, fin_ret, fin_next, ob_some, obl_bl, bnd_if, lft_if, unl, bnd_ok, bnd_no, lft_some, lft_none, truth, cmpop, D_non, D_bl, D_int, D_str, D_tup, D_lst, P_non, P_bl, P_int, P_str, P_tup, P_lst, P_nil, P_cons, eqM_d, isIn_t, isIn_l, PV.eqv, tl_zero, e2]
    · cases e : hdd v with
      | false =>
        rw [e] at hh
        rw [tl_hdd e]
        simp [go, b6, x_k, x_loc, x_glo, x_bin, x_neg, x_not, x_and, x_or, x_cmp, x_cmp2, x_ite, x_nil, x_cons, x_tup, x_lst, x_ix, x_sl, x_call, x_bf, x_isi, x_rng, x_zip, x_comp, x_dget, s_skip, s_seq, s_ex, s_ret, s_asg, s_par, s_ite, s_for, thenS_next, thenS_ret, fin_ret, fin_next, ob_some, obl_bl, bnd_if, lft_if, unl, bnd_ok, bnd_no, lft_some, lft_none, truth, cmpop, D_non, D_bl, D_int, D_str, D_tup, D_lst, P_non, P_bl, P_int, P_str, P_tup, P_lst, P_nil, P_cons, eqM_d, isIn_t, isIn_l, PV.eqv, e2, hm, hh]
      | true =>
        rw [e] at hh
        unfold hdd at e
        split at e
        · rename_i s
          by_cases h1 : s = [97, 110, 121]
          · subst h1
            simp [go, b6, x_k, x_loc, x_glo, x_bin, x_neg, x_not, x_and, x_or, x_cmp, x_cmp2, x_ite, x_nil, x_cons, x_tup, x_lst, x_ix, x_sl, x_call, x_bf, x_isi, x_rng, x_zip, x_comp, x_dget, s_skip, s_seq, s_ex, s_ret, s_asg, s_par, s_ite, s_for, thenS_next, thenS_ret, fin_ret, fin_next, ob_some, obl_bl, bnd_if, lft_if, unl, bnd_ok, bnd_no, lft_some, lft_none, truth, cmpop, D_non, D_bl, D_int, D_str, D_tup, D_lst, P_non, P_bl, P_int, P_str, P_tup, P_lst, P_nil, P_cons, eqM_d, isIn_t, isIn_l, PV.eqv, e2, hm, hh, asg, item, vw, atI, binop, arith, callB, tl]
          · have f5 := is_field_no (n := n + h + 1) (l := [PV.str s]) (m := mem) (by simp)
            simp [go, b6, x_k, x_loc, x_glo, x_bin, x_neg, x_not, x_and, x_or, x_cmp, x_cmp2, x_ite, x_nil, x_cons, x_tup, x_lst, x_ix, x_sl, x_call, x_bf, x_isi, x_rng, x_zip, x_comp, x_dget, s_skip, s_seq, s_ex, s_ret, s_asg, s_par, s_ite, s_for, thenS_next, thenS_ret, fin_ret, fin_next, ob_some, obl_bl, bnd_if, lft_if, unl, bnd_ok, bnd_no, lft_some, lft_none, truth, cmpop, D_non, D_bl, D_int, D_str, D_tup, D_lst, P_non, P_bl, P_int, P_str, P_tup, P_lst, P_nil, P_cons, eqM_d, isIn_t, isIn_l, PV.eqv, e2, hm, hh, asg, item, vw, atI, binop, arith, callB, tl, h1, f5]
        · rename_i s a
          simp [F_non, F_bl, F_int, F_str, F_tup, F_lst, F_cell, F_fn, F_nil, F_cons] at hv
          have ha := flat_D hv
          have f5 := is_field_no (n := n + h + 1) (l := [PV.str s, a]) (m := mem) (by simp)
          have w := is_whole (n := n + h + 2) (v := a) (lo := 0) (hi := 3) (m := mem) ha
          have rc := fun k => ih n a k mem hv
          by_cases h1 : s = [105, 110]
          · subst h1
            cases h2 : isW a 0 3 with
            | true => simp [go, b6, x_k, x_loc, x_glo, x_bin, x_neg, x_not, x_and, x_or, x_cmp, x_cmp2, x_ite, x_nil, x_cons, x_tup, x_lst, x_ix, x_sl, x_call, x_bf, x_isi, x_rng, x_zip, x_comp, x_dget, s_skip, s_seq, s_ex, s_ret, s_asg, s_par, s_ite, s_for, thenS_next, thenS_ret, fin_ret, fin_next, ob_some, obl_bl, bnd_if, lft_if, unl, bnd_ok, bnd_no, lft_some, lft_none, truth, cmpop, D_non, D_bl, D_int, D_str, D_tup, D_lst, P_non, P_bl, P_int, P_str, P_tup, P_lst, P_nil, P_cons, eqM_d, isIn_t, isIn_l, PV.eqv, e2, hm, hh, asg, item, vw, atI, binop, arith, callB, tl, f5, con2, w, h2]
            | false => simp [go, b6, x_k, x_loc, x_glo, x_bin, x_neg, x_not, x_and, x_or, x_cmp, x_cmp2, x_ite, x_nil, x_cons, x_tup, x_lst, x_ix, x_sl, x_call, x_bf, x_isi, x_rng, x_zip, x_comp, x_dget, s_skip, s_seq, s_ex, s_ret, s_asg, s_par, s_ite, s_for, thenS_next, thenS_ret, fin_ret, fin_next, ob_some, obl_bl, bnd_if, lft_if, unl, bnd_ok, bnd_no, lft_some, lft_none, truth, cmpop, D_non, D_bl, D_int, D_str, D_tup, D_lst, P_non, P_bl, P_int, P_str, P_tup, P_lst, P_nil, P_cons, eqM_d, isIn_t, isIn_l, PV.eqv, e2, hm, hh, asg, item, vw, atI, binop, arith, callB, tl, f5, con2, w, h2]
          · by_cases h2 : s = [110, 111, 116]
            · subst h2
              by_cases h3 : 1 ≤ m
              · simp [go, b6, x_k, x_loc, x_glo, x_bin, x_neg, x_not, x_and, x_or, x_cmp, x_cmp2, x_ite, x_nil, x_cons, x_tup, x_lst, x_ix, x_sl, x_call, x_bf, x_isi, x_rng, x_zip, x_comp, x_dget, s_skip, s_seq, s_ex, s_ret, s_asg, s_par, s_ite, s_for, thenS_next, thenS_ret, fin_ret, fin_next, ob_some, obl_bl, bnd_if, lft_if, unl, bnd_ok, bnd_no, lft_some, lft_none, truth, cmpop, D_non, D_bl, D_int, D_str, D_tup, D_lst, P_non, P_bl, P_int, P_str, P_tup, P_lst, P_nil, P_cons, eqM_d, isIn_t, isIn_l, PV.eqv, e2, hm, hh, asg, item, vw, atI, binop, arith, callB, tl, f5, forL, forB_eq, slice, optI, small, cut, bound, rc, h3]
              · simp [go, b6, x_k, x_loc, x_glo, x_bin, x_neg, x_not, x_and, x_or, x_cmp, x_cmp2, x_ite, x_nil, x_cons, x_tup, x_lst, x_ix, x_sl, x_call, x_bf, x_isi, x_rng, x_zip, x_comp, x_dget, s_skip, s_seq, s_ex, s_ret, s_asg, s_par, s_ite, s_for, thenS_next, thenS_ret, fin_ret, fin_next, ob_some, obl_bl, bnd_if, lft_if, unl, bnd_ok, bnd_no, lft_some, lft_none, truth, cmpop, D_non, D_bl, D_int, D_str, D_tup, D_lst, P_non, P_bl, P_int, P_str, P_tup, P_lst, P_nil, P_cons, eqM_d, isIn_t, isIn_l, PV.eqv, e2, hm, hh, asg, item, vw, atI, binop, arith, callB, tl, f5, forL, forB_eq, slice, optI, small, cut, bound, rc, h3]
            · simp [go, b6, x_k, x_loc, x_glo, x_bin, x_neg, x_not, x_and, x_or, x_cmp, x_cmp2, x_ite, x_nil, x_cons, x_tup, x_lst, x_ix, x_sl, x_call, x_bf, x_isi, x_rng, x_zip, x_comp, x_dget, s_skip, s_seq, s_ex, s_ret, s_asg, s_par, s_ite, s_for, thenS_next, thenS_ret, fin_ret, fin_next, ob_some, obl_bl, bnd_if, lft_if, unl, bnd_ok, bnd_no, lft_some, lft_none, truth, cmpop, D_non, D_bl, D_int, D_str, D_tup, D_lst, P_non, P_bl, P_int, P_str, P_tup, P_lst, P_nil, P_cons, eqM_d, isIn_t, isIn_l, PV.eqv, e2, hm, hh, asg, item, vw, atI, binop, arith, callB, tl, f5, h1, h2]
        · rename_i s a b
          simp [F_non, F_bl, F_int, F_str, F_tup, F_lst, F_cell, F_fn, F_nil, F_cons] at hv
          have ha := flat_D hv.1
          have f5 := is_field_no (n := n + h + 1) (l := [PV.str s, a, b]) (m := mem) (by simp)
          have rc := fun k => ih n a k mem hv.1
          have rd := fun k => ih n b k mem hv.2
          by_cases h1 : s = [97, 110, 100] ∨ s = [111, 114]
          · have h4 : s ≠ [97, 110, 121] ∧ s ≠ [105, 110] ∧ s ≠ [110, 111, 116] ∧ s ≠ [102, 105, 101, 108, 100] := by rcases h1 with rfl | rfl <;> decide
            have h5 : (anyEq (.str s) [.str [97, 110, 100], .str [111, 114]]) = true := by rcases h1 with rfl | rfl <;> decide
            obtain ⟨k1, k2, k3, k4⟩ := h4
            by_cases h3 : 1 ≤ m
            · by_cases h6 : 0 ≤ tl h a (m - 1)
              · simp [go, b6, x_k, x_loc, x_glo, x_bin, x_neg, x_not, x_and, x_or, x_cmp, x_cmp2, x_ite, x_nil, x_cons, x_tup, x_lst, x_ix, x_sl, x_call, x_bf, x_isi, x_rng, x_zip, x_comp, x_dget, s_skip, s_seq, s_ex, s_ret, s_asg, s_par, s_ite, s_for, thenS_next, thenS_ret, fin_ret, fin_next, ob_some, obl_bl, bnd_if, lft_if, unl, bnd_ok, bnd_no, lft_some, lft_none, truth, cmpop, D_non, D_bl, D_int, D_str, D_tup, D_lst, P_non, P_bl, P_int, P_str, P_tup, P_lst, P_nil, P_cons, eqM_d, isIn_t, isIn_l, PV.eqv, e2, hm, hh, asg, item, vw, atI, binop, arith, callB, tl, f5, forL, forB_eq, slice, optI, small, cut, bound, rc, rd, h3, h5, k1, k2, k3, k4, h6]
                intro z1 z2
                rcases h1 with q | q
                · exact absurd q z1
                · exact absurd q z2
              · simp [go, b6, x_k, x_loc, x_glo, x_bin, x_neg, x_not, x_and, x_or, x_cmp, x_cmp2, x_ite, x_nil, x_cons, x_tup, x_lst, x_ix, x_sl, x_call, x_bf, x_isi, x_rng, x_zip, x_comp, x_dget, s_skip, s_seq, s_ex, s_ret, s_asg, s_par, s_ite, s_for, thenS_next, thenS_ret, fin_ret, fin_next, ob_some, obl_bl, bnd_if, lft_if, unl, bnd_ok, bnd_no, lft_some, lft_none, truth, cmpop, D_non, D_bl, D_int, D_str, D_tup, D_lst, P_non, P_bl, P_int, P_str, P_tup, P_lst, P_nil, P_cons, eqM_d, isIn_t, isIn_l, PV.eqv, e2, hm, hh, asg, item, vw, atI, binop, arith, callB, tl, f5, forL, forB_eq, slice, optI, small, cut, bound, rc, rd, h3, h5, k1, k2, k3, k4, h6]
            · simp [go, b6, x_k, x_loc, x_glo, x_bin, x_neg, x_not, x_and, x_or, x_cmp, x_cmp2, x_ite, x_nil, x_cons, x_tup, x_lst, x_ix, x_sl, x_call, x_bf, x_isi, x_rng, x_zip, x_comp, x_dget, s_skip, s_seq, s_ex, s_ret, s_asg, s_par, s_ite, s_for, thenS_next, thenS_ret, fin_ret, fin_next, ob_some, obl_bl, bnd_if, lft_if, unl, bnd_ok, bnd_no, lft_some, lft_none, truth, cmpop, D_non, D_bl, D_int, D_str, D_tup, D_lst, P_non, P_bl, P_int, P_str, P_tup, P_lst, P_nil, P_cons, eqM_d, isIn_t, isIn_l, PV.eqv, e2, hm, hh, asg, item, vw, atI, binop, arith, callB, tl, f5, forL, forB_eq, slice, optI, small, cut, bound, rc, rd, h3, h5, k1, k2, k3, k4]
          · have h5 : (anyEq (.str s) [.str [97, 110, 100], .str [111, 114]]) = false := by
              have g : ¬ ((s = [97, 110, 100]) ∨ (s = [111, 114])) := h1
              simp only [not_or] at g
              simp [anyEq, PV.eqv, Ne.symm g.1, Ne.symm g.2]
            by_cases k1 : s = [97, 110, 121]
            · subst k1
              simp [go, b6, x_k, x_loc, x_glo, x_bin, x_neg, x_not, x_and, x_or, x_cmp, x_cmp2, x_ite, x_nil, x_cons, x_tup, x_lst, x_ix, x_sl, x_call, x_bf, x_isi, x_rng, x_zip, x_comp, x_dget, s_skip, s_seq, s_ex, s_ret, s_asg, s_par, s_ite, s_for, thenS_next, thenS_ret, fin_ret, fin_next, ob_some, obl_bl, bnd_if, lft_if, unl, bnd_ok, bnd_no, lft_some, lft_none, truth, cmpop, D_non, D_bl, D_int, D_str, D_tup, D_lst, P_non, P_bl, P_int, P_str, P_tup, P_lst, P_nil, P_cons, eqM_d, isIn_t, isIn_l, PV.eqv, e2, hm, hh, asg, item, vw, atI, binop, arith, callB, tl, f5, h5]
            · by_cases k2 : s = [105, 110]
              · subst k2
                simp [go, b6, x_k, x_loc, x_glo, x_bin, x_neg, x_not, x_and, x_or, x_cmp, x_cmp2, x_ite, x_nil, x_cons, x_tup, x_lst, x_ix, x_sl, x_call, x_bf, x_isi, x_rng, x_zip, x_comp, x_dget, s_skip, s_seq, s_ex, s_ret, s_asg, s_par, s_ite, s_for, thenS_next, thenS_ret, fin_ret, fin_next, ob_some, obl_bl, bnd_if, lft_if, unl, bnd_ok, bnd_no, lft_some, lft_none, truth, cmpop, D_non, D_bl, D_int, D_str, D_tup, D_lst, P_non, P_bl, P_int, P_str, P_tup, P_lst, P_nil, P_cons, eqM_d, isIn_t, isIn_l, PV.eqv, e2, hm, hh, asg, item, vw, atI, binop, arith, callB, tl, f5, h5]
              · simp [go, b6, x_k, x_loc, x_glo, x_bin, x_neg, x_not, x_and, x_or, x_cmp, x_cmp2, x_ite, x_nil, x_cons, x_tup, x_lst, x_ix, x_sl, x_call, x_bf, x_isi, x_rng, x_zip, x_comp, x_dget, s_skip, s_seq, s_ex, s_ret, s_asg, s_par, s_ite, s_for, thenS_next, thenS_ret, fin_ret, fin_next, ob_some, obl_bl, bnd_if, lft_if, unl, bnd_ok, bnd_no, lft_some, lft_none, truth, cmpop, D_non, D_bl, D_int, D_str, D_tup, D_lst, P_non, P_bl, P_int, P_str, P_tup, P_lst, P_nil, P_cons, eqM_d, isIn_t, isIn_l, PV.eqv, e2, hm, hh, asg, item, vw, atI, binop, arith, callB, tl, f5, h5, k1, k2]
                intro q
                exact absurd q h1
        · rename_i s a b c
          simp [F_non, F_bl, F_int, F_str, F_tup, F_lst, F_cell, F_fn, F_nil, F_cons] at hv
          have ha := flat_D hv.1
          have hb := flat_D hv.2.1
          have hc := flat_D hv.2.2
          have f5 := is_field (n := n + h + 1) (s := .str s) (m := mem) ha hb hc
          by_cases k1 : s = [102, 105, 101, 108, 100]
          · subst k1
            cases h2 : fieldB a b c with
            | true => simp [go, b6, x_k, x_loc, x_glo, x_bin, x_neg, x_not, x_and, x_or, x_cmp, x_cmp2, x_ite, x_nil, x_cons, x_tup, x_lst, x_ix, x_sl, x_call, x_bf, x_isi, x_rng, x_zip, x_comp, x_dget, s_skip, s_seq, s_ex, s_ret, s_asg, s_par, s_ite, s_for, thenS_next, thenS_ret, fin_ret, fin_next, ob_some, obl_bl, bnd_if, lft_if, unl, bnd_ok, bnd_no, lft_some, lft_none, truth, cmpop, D_non, D_bl, D_int, D_str, D_tup, D_lst, P_non, P_bl, P_int, P_str, P_tup, P_lst, P_nil, P_cons, eqM_d, isIn_t, isIn_l, PV.eqv, e2, hm, hh, asg, item, vw, atI, binop, arith, callB, tl, f5, h2]
            | false => simp [go, b6, x_k, x_loc, x_glo, x_bin, x_neg, x_not, x_and, x_or, x_cmp, x_cmp2, x_ite, x_nil, x_cons, x_tup, x_lst, x_ix, x_sl, x_call, x_bf, x_isi, x_rng, x_zip, x_comp, x_dget, s_skip, s_seq, s_ex, s_ret, s_asg, s_par, s_ite, s_for, thenS_next, thenS_ret, fin_ret, fin_next, ob_some, obl_bl, bnd_if, lft_if, unl, bnd_ok, bnd_no, lft_some, lft_none, truth, cmpop, D_non, D_bl, D_int, D_str, D_tup, D_lst, P_non, P_bl, P_int, P_str, P_tup, P_lst, P_nil, P_cons, eqM_d, isIn_t, isIn_l, PV.eqv, e2, hm, hh, asg, item, vw, atI, binop, arith, callB, tl, f5, h2, anyEq]
          · by_cases k2 : s = [97, 110, 121]
            · subst k2
              simp [go, b6, x_k, x_loc, x_glo, x_bin, x_neg, x_not, x_and, x_or, x_cmp, x_cmp2, x_ite, x_nil, x_cons, x_tup, x_lst, x_ix, x_sl, x_call, x_bf, x_isi, x_rng, x_zip, x_comp, x_dget, s_skip, s_seq, s_ex, s_ret, s_asg, s_par, s_ite, s_for, thenS_next, thenS_ret, fin_ret, fin_next, ob_some, obl_bl, bnd_if, lft_if, unl, bnd_ok, bnd_no, lft_some, lft_none, truth, cmpop, D_non, D_bl, D_int, D_str, D_tup, D_lst, P_non, P_bl, P_int, P_str, P_tup, P_lst, P_nil, P_cons, eqM_d, isIn_t, isIn_l, PV.eqv, e2, hm, hh, asg, item, vw, atI, binop, arith, callB, tl, f5, anyEq]
            · by_cases k3 : s = [105, 110]
              · subst k3
                simp [go, b6, x_k, x_loc, x_glo, x_bin, x_neg, x_not, x_and, x_or, x_cmp, x_cmp2, x_ite, x_nil, x_cons, x_tup, x_lst, x_ix, x_sl, x_call, x_bf, x_isi, x_rng, x_zip, x_comp, x_dget, s_skip, s_seq, s_ex, s_ret, s_asg, s_par, s_ite, s_for, thenS_next, thenS_ret, fin_ret, fin_next, ob_some, obl_bl, bnd_if, lft_if, unl, bnd_ok, bnd_no, lft_some, lft_none, truth, cmpop, D_non, D_bl, D_int, D_str, D_tup, D_lst, P_non, P_bl, P_int, P_str, P_tup, P_lst, P_nil, P_cons, eqM_d, isIn_t, isIn_l, PV.eqv, e2, hm, hh, asg, item, vw, atI, binop, arith, callB, tl, f5, anyEq]
              · have k4 : (anyEq (.str s) [.str [97, 110, 100], .str [111, 114]]) = true ∨ (anyEq (.str s) [.str [97, 110, 100], .str [111, 114]]) = false := by cases anyEq (.str s) [.str [97, 110, 100], .str [111, 114]] <;> simp
                rcases k4 with k4 | k4
                · simp [go, b6, x_k, x_loc, x_glo, x_bin, x_neg, x_not, x_and, x_or, x_cmp, x_cmp2, x_ite, x_nil, x_cons, x_tup, x_lst, x_ix, x_sl, x_call, x_bf, x_isi, x_rng, x_zip, x_comp, x_dget, s_skip, s_seq, s_ex, s_ret, s_asg, s_par, s_ite, s_for, thenS_next, thenS_ret, fin_ret, fin_next, ob_some, obl_bl, bnd_if, lft_if, unl, bnd_ok, bnd_no, lft_some, lft_none, truth, cmpop, D_non, D_bl, D_int, D_str, D_tup, D_lst, P_non, P_bl, P_int, P_str, P_tup, P_lst, P_nil, P_cons, eqM_d, isIn_t, isIn_l, PV.eqv, e2, hm, hh, asg, item, vw, atI, binop, arith, callB, tl, f5, k1, k2, k3, k4]
                · simp [go, b6, x_k, x_loc, x_glo, x_bin, x_neg, x_not, x_and, x_or, x_cmp, x_cmp2, x_ite, x_nil, x_cons, x_tup, x_lst, x_ix, x_sl, x_call, x_bf, x_isi, x_rng, x_zip, x_comp, x_dget, s_skip, s_seq, s_ex, s_ret, s_asg, s_par, s_ite, s_for, thenS_next, thenS_ret, fin_ret, fin_next, ob_some, obl_bl, bnd_if, lft_if, unl, bnd_ok, bnd_no, lft_some, lft_none, truth, cmpop, D_non, D_bl, D_int, D_str, D_tup, D_lst, P_non, P_bl, P_int, P_str, P_tup, P_lst, P_nil, P_cons, eqM_d, isIn_t, isIn_l, PV.eqv, e2, hm, hh, asg, item, vw, atI, binop, arith, callB, tl, f5, k1, k2, k3, k4]
        · cases e
end P00
set_option maxHeartbeats 4000000
namespace P00
open Pv
theorem r21 (n : Nat) (a : PV) (m : Mem) : run prg (n + 1) 21 [a] m = go b21 1 3 n [a] m := rfl
theorem r22 (n : Nat) (a : PV) (m : Mem) : run prg (n + 1) 22 [a] m = go b22 1 2 n [a] m := rfl
theorem r24 (n : Nat) (a : PV) (m : Mem) : run prg (n + 1) 24 [a] m = go b24 1 1 n [a] m := rfl
def val : Option (Int × Int) → PV
  | none => .non
  | some (a, b) => .tup [.int a, .int b]
theorem val_D (o : Option (Int × Int)) : (val o).isD = true := by cases o <;> rfl
def ov1 : Option (Int × Int) → Option (Int × Int)
  | some (a, b) => some (1 + a, 1 + b)
  | none => none
def ov2 : Option (Int × Int) → Option (Int × Int) → Option (Int × Int)
  | some (a, b), some (c, d) => some (1 + (a + c), 1 + max b d)
  | _, _ => none
def ov3 : Option (Int × Int) → Option (Int × Int) → Option (Int × Int) → Option (Int × Int)
  | some (a, b), some (c, d), some (e, f) => some (1 + (a + (c + e)), 1 + max (max b d) f)
  | _, _, _ => none
theorem over1 {n : Nat} {m : Mem} (x : Option (Int × Int)) : run prg (n + 1) 22 [.lst [val x]] m = .ok (val (ov1 x)) m := by
  rw [r22]
  rcases x with _ | ⟨a, b⟩
  · simp [go, b22, x_k, x_loc, x_glo, x_bin, x_neg, x_not, x_and, x_or, x_cmp, x_cmp2, x_ite, x_nil, x_cons, x_tup, x_lst, x_ix, x_sl, x_call, x_bf, x_isi, x_rng, x_zip, x_comp, x_dget, s_skip, s_seq, s_ex, s_ret, s_asg, s_par, s_ite, s_for, thenS_next, thenS_ret, fin_ret, fin_next, ob_some, obl_bl, bnd_if, lft_if, unl, bnd_ok, bnd_no, lft_some, lft_none, truth, cmpop, D_non, D_bl, D_int, D_str, D_tup, D_lst, P_non, P_bl, P_int, P_str, P_tup, P_lst, P_nil, P_cons, eqM_d, isIn_t, isIn_l, val, ov1, anyEq, PV.eqv]
  · simp [go, b22, x_k, x_loc, x_glo, x_bin, x_neg, x_not, x_and, x_or, x_cmp, x_cmp2, x_ite, x_nil, x_cons, x_tup, x_lst, x_ix, x_sl, x_call, x_bf, x_isi, x_rng, x_zip, x_comp, x_dget, s_skip, s_seq, s_ex, s_ret, s_asg, s_par, s_ite, s_for, thenS_next, thenS_ret, fin_ret, fin_next, ob_some, obl_bl, bnd_if, lft_if, unl, bnd_ok, bnd_no, lft_some, lft_none, truth, cmpop, D_non, D_bl, D_int, D_str, D_tup, D_lst, P_non, P_bl, P_int, P_str, P_tup, P_lst, P_nil, P_cons, eqM_d, isIn_t, isIn_l, val, ov1, anyEq, PV.eqv, compL, cmpB, compT, asg, wipeP, tstB, item, vw, atI, mkl, callB, intsOf, binop, arith]
theorem over2 {n : Nat} {m : Mem} (x y : Option (Int × Int)) : run prg (n + 1) 22 [.lst [val x, val y]] m = .ok (val (ov2 x y)) m := by
  rw [r22]
  rcases x with _ | ⟨a, b⟩ <;> rcases y with _ | ⟨c, d⟩
  · simp [go, b22, x_k, x_loc, x_glo, x_bin, x_neg, x_not, x_and, x_or, x_cmp, x_cmp2, x_ite, x_nil, x_cons, x_tup, x_lst, x_ix, x_sl, x_call, x_bf, x_isi, x_rng, x_zip, x_comp, x_dget, s_skip, s_seq, s_ex, s_ret, s_asg, s_par, s_ite, s_for, thenS_next, thenS_ret, fin_ret, fin_next, ob_some, obl_bl, bnd_if, lft_if, unl, bnd_ok, bnd_no, lft_some, lft_none, truth, cmpop, D_non, D_bl, D_int, D_str, D_tup, D_lst, P_non, P_bl, P_int, P_str, P_tup, P_lst, P_nil, P_cons, eqM_d, isIn_t, isIn_l, val, ov2, anyEq, PV.eqv]
  · simp [go, b22, x_k, x_loc, x_glo, x_bin, x_neg, x_not, x_and, x_or, x_cmp, x_cmp2, x_ite, x_nil, x_cons, x_tup, x_lst, x_ix, x_sl, x_call, x_bf, x_isi, x_rng, x_zip, x_comp, x_dget, s_skip, s_seq, s_ex, s_ret, s_asg, s_par, s_ite, s_for, thenS_next, thenS_ret, fin_ret, fin_next, ob_some, obl_bl, bnd_if, lft_if, unl, bnd_ok, bnd_no, lft_some, lft_none, truth, cmpop, D_non, D_bl, D_int, D_str, D_tup, D_lst, P_non, P_bl, P_int, P_str, P_tup, P_lst, P_nil, P_cons, eqM_d, isIn_t, isIn_l, val, ov2, anyEq, PV.eqv]
  · simp [go, b22, x_k, x_loc, x_glo, x_bin, x_neg, x_not, x_and, x_or, x_cmp, x_cmp2, x_ite, x_nil, x_cons, x_tup, x_lst, x_ix, x_sl, x_call, x_bf, x_isi, x_rng, x_zip, x_comp, x_dget, s_skip, s_seq, s_ex, s_ret, s_asg, s_par, s_ite, s_for, thenS_next, thenS_ret, fin_ret, fin_next, ob_some, obl_bl, bnd_if, lft_if, unl, bnd_ok, bnd_no, lft_some, lft_none, truth, cmpop, D_non, D_bl, D_int, D_str, D_tup, D_lst, P_non, P_bl, P_int, P_str, P_tup, P_lst, P_nil, P_cons, eqM_d, isIn_t, isIn_l, val, ov2, anyEq, PV.eqv]
  · simp [go, b22, x_k, x_loc, x_glo, x_bin, x_neg, x_not, x_and, x_or, x_cmp, x_cmp2, x_ite, x_nil, x_cons, x_tup, x_lst, x_ix, x_sl, x_call, x_bf, x_isi, x_rng, x_zip, x_comp, x_dget, s_skip, s_seq, s_ex, s_ret, s_asg, s_par, s_ite, s_for, thenS_next, thenS_ret, fin_ret, fin_next, ob_some, obl_bl, bnd_if, lft_if, unl, bnd_ok, bnd_no, lft_some, lft_none, truth, cmpop, D_non, D_bl, D_int, D_str, D_tup, D_lst, P_non, P_bl, P_int, P_str, P_tup, P_lst, P_nil, P_cons, eqM_d, isIn_t, isIn_l, val, ov2, anyEq, PV.eqv, compL, cmpB, compT, asg, wipeP, tstB, item, vw, atI, mkl, callB, intsOf, binop, arith]
theorem over3 {n : Nat} {m : Mem} (x y z : Option (Int × Int)) : run prg (n + 1) 22 [.lst [val x, val y, val z]] m = .ok (val (ov3 x y z)) m := by
  rw [r22]
  rcases x with _ | ⟨a, b⟩ <;> rcases y with _ | ⟨c, d⟩ <;> rcases z with _ | ⟨e, f⟩
  all_goals first
    | (simp [go, b22, x_k, x_loc, x_glo, x_bin, x_neg, x_not, x_and, x_or, x_cmp, x_cmp2, x_ite, x_nil, x_cons, x_tup, x_lst, x_ix, x_sl, x_call, x_bf, x_isi, x_rng, x_zip, x_comp, x_dget, s_skip, s_seq, s_ex, s_ret, s_asg, s_par, s_ite, s_for, thenS_next, thenS_ret, fin_ret, fin_next, ob_some, obl_bl, bnd_if, lft_if, unl, bnd_ok, bnd_no, lft_some, lft_none, truth, cmpop, D_non, D_bl, D_int, D_str, D_tup, D_lst, P_non, P_bl, P_int, P_str, P_tup, P_lst, P_nil, P_cons, eqM_d, isIn_t, isIn_l, val, ov3, anyEq, PV.eqv]; done)
    | simp [go, b22, x_k, x_loc, x_glo, x_bin, x_neg, x_not, x_and, x_or, x_cmp, x_cmp2, x_ite, x_nil, x_cons, x_tup, x_lst, x_ix, x_sl, x_call, x_bf, x_isi, x_rng, x_zip, x_comp, x_dget, s_skip, s_seq, s_ex, s_ret, s_asg, s_par, s_ite, s_for, thenS_next, thenS_ret, fin_ret, fin_next, ob_some, obl_bl, bnd_if, lft_if, unl, bnd_ok, bnd_no, lft_some, lft_none, truth, cmpop, D_non, D_bl, D_int, D_str, D_tup, D_lst, P_non, P_bl, P_int, P_str, P_tup, P_lst, P_nil, P_cons, eqM_d, isIn_t, isIn_l, val, ov3, anyEq, PV.eqv, compL, cmpB, compT, asg, wipeP, tstB, item, vw, atI, mkl, callB, intsOf, binop, arith]
def letB : Option (Int × Int) → Bool
  | some (a, b) => decide (a ≤ 60) && decide (b ≤ 12)
  | none => false
theorem lets {n : Nat} {m : Mem} (x : Option (Int × Int)) : run prg (n + 1) 24 [val x] m = .ok (.bl (letB x)) m := by
  rw [r24]
  rcases x with _ | ⟨a, b⟩
  · simp [go, b24, x_k, x_loc, x_glo, x_bin, x_neg, x_not, x_and, x_or, x_cmp, x_cmp2, x_ite, x_nil, x_cons, x_tup, x_lst, x_ix, x_sl, x_call, x_bf, x_isi, x_rng, x_zip, x_comp, x_dget, s_skip, s_seq, s_ex, s_ret, s_asg, s_par, s_ite, s_for, thenS_next, thenS_ret, fin_ret, fin_next, ob_some, obl_bl, bnd_if, lft_if, unl, bnd_ok, bnd_no, lft_some, lft_none, truth, cmpop, D_non, D_bl, D_int, D_str, D_tup, D_lst, P_non, P_bl, P_int, P_str, P_tup, P_lst, P_nil, P_cons, eqM_d, isIn_t, isIn_l, val, isSame, letB]
  · simp [go, b24, x_k, x_loc, x_glo, x_bin, x_neg, x_not, x_and, x_or, x_cmp, x_cmp2, x_ite, x_nil, x_cons, x_tup, x_lst, x_ix, x_sl, x_call, x_bf, x_isi, x_rng, x_zip, x_comp, x_dget, s_skip, s_seq, s_ex, s_ret, s_asg, s_par, s_ite, s_for, thenS_next, thenS_ret, fin_ret, fin_next, ob_some, obl_bl, bnd_if, lft_if, unl, bnd_ok, bnd_no, lft_some, lft_none, truth, cmpop, D_non, D_bl, D_int, D_str, D_tup, D_lst, P_non, P_bl, P_int, P_str, P_tup, P_lst, P_nil, P_cons, eqM_d, isIn_t, isIn_l, val, isSame, letB, item, vw, atI]
    by_cases h : a ≤ 60 <;> simp [h]
def tsz : Nat → PV → Option (Int × Int)
  | 0, _ => none
  | k + 1, .tup [.str s] => if s = [97, 110, 121] then some (1, 1) else none
  | k + 1, .tup [.str s, a] => if s = [105, 110] ∧ isW a 0 3 = true then some (1, 1) else if s = [110, 111, 116] then ov1 (tsz k a) else none
  | k + 1, .tup [.str s, a, b] => if s = [97, 110, 100] ∨ s = [111, 114] then ov2 (tsz k a) (tsz k b) else none
  | k + 1, .tup [.str s, a, b, c] => if s = [102, 105, 101, 108, 100] ∧ fieldB a b c = true then some (1, 1) else none
  | _ + 1, _ => none
end P00
set_option maxHeartbeats 4000000
namespace P00
open Pv
theorem tsz_no {k : Nat} {v : PV} (h : hdd v = false) : tsz (k + 1) v = none := by
  unfold tsz
  split <;> first | (simp [hdd] at h; done) | rfl
theorem hdd_of {x : PV} {l : List PV} (h : ∀ s, x ≠ .str s) : hdd (.tup (x :: l)) = false := by
  unfold hdd
  split <;> first | rfl | (rename_i e; injection e with e; injection e with e1 e2; exact absurd e1 (h _))
theorem hdd_long {x a b c d : PV} {l : List PV} : hdd (.tup (x :: a :: b :: c :: d :: l)) = false := by
  cases x <;> rfl
theorem flat_cons {x : PV} {l : List PV} (h : (PV.tup (x :: l)).flat = true) : x.flat = true := by
  simp [F_non, F_bl, F_int, F_str, F_tup, F_lst, F_cell, F_fn, F_nil, F_cons] at h
  exact h.1
theorem lkT (s : List Nat) : (lkS [[110, 111, 116], [97, 110, 100], [111, 114]] [.int 2, .int 3, .int 3] s).getD (.int 0) = .int (if s = [110, 111, 116] then 2 else if s = [97, 110, 100] ∨ s = [111, 114] then 3 else 0) := by
  by_cases q1 : s = [110, 111, 116]
  · subst q1; simp [lkS]
  · by_cases q2 : s = [97, 110, 100]
    · subst q2; simp [lkS]
    · by_cases q3 : s = [111, 114]
      · subst q3; simp [lkS]
      · simp [lkS, q1, q2, q3, Ne.symm q1, Ne.symm q2, Ne.symm q3]
theorem test_size : ∀ (k n : Nat) (v : PV) (mem : Mem), v.flat = true → v.dep < k → run prg (n + k + 2) 21 [v] mem = .ok (val (tsz k v)) mem := by
  intro k
  induction k with
  | zero => intro n v mem _ h; omega
  | succ k ih =>
    intro n v mem hv hd
    rw [show n + (k + 1) + 2 = (n + k + 2) + 1 from by omega, r21]
    cases v with
    | tup l =>
      cases l with
      | nil =>
        have e := tsz_no (k := k) (v := .tup []) rfl
        simp [e, go, b21, x_k, x_loc, x_glo, x_bin, x_neg, x_not, x_and, x_or, x_cmp, x_cmp2, x_ite, x_nil, x_cons, x_tup, x_lst, x_ix, x_sl, x_call, x_bf, x_isi, x_rng, x_zip, x_comp, x_dget, s_skip, s_seq, s_ex, s_ret, s_asg, s_par, s_ite, s_for, thenS_next, thenS_ret, fin_ret, fin_next, ob_some, obl_bl, bnd_if, lft_if, unl, bnd_ok, bnd_no, lft_some, lft_none, truth, cmpop, D_non, D_bl, D_int, D_str, D_tup, D_lst, P_non, P_bl, P_int, P_str, P_tup, P_lst, P_nil, P_cons, eqM_d, isIn_t, isIn_l, PV.eqv, isTy, vw, callB, val]
      | cons x l =>
        have hx := flat_cons hv
        by_cases hs : ∃ s, x = .str s
        · obtain ⟨s, rfl⟩ := hs
          rcases l with _ | ⟨a, _ | ⟨b, _ | ⟨c, _ | ⟨d, l⟩⟩⟩⟩
          · by_cases h1 : s = [97, 110, 121]
            · subst h1
              simp [go, b21, x_k, x_loc, x_glo, x_bin, x_neg, x_not, x_and, x_or, x_cmp, x_cmp2, x_ite, x_nil, x_cons, x_tup, x_lst, x_ix, x_sl, x_call, x_bf, x_isi, x_rng, x_zip, x_comp, x_dget, s_skip, s_seq, s_ex, s_ret, s_asg, s_par, s_ite, s_for, thenS_next, thenS_ret, fin_ret, fin_next, ob_some, obl_bl, bnd_if, lft_if, unl, bnd_ok, bnd_no, lft_some, lft_none, truth, cmpop, D_non, D_bl, D_int, D_str, D_tup, D_lst, P_non, P_bl, P_int, P_str, P_tup, P_lst, P_nil, P_cons, eqM_d, isIn_t, isIn_l, PV.eqv, eqvAll, isTy, vw, callB, item, atI, tsz, val, asg]
            · by_cases h2 : s = [102, 105, 101, 108, 100]
              · subst h2
                simp [go, b21, x_k, x_loc, x_glo, x_bin, x_neg, x_not, x_and, x_or, x_cmp, x_cmp2, x_ite, x_nil, x_cons, x_tup, x_lst, x_ix, x_sl, x_call, x_bf, x_isi, x_rng, x_zip, x_comp, x_dget, s_skip, s_seq, s_ex, s_ret, s_asg, s_par, s_ite, s_for, thenS_next, thenS_ret, fin_ret, fin_next, ob_some, obl_bl, bnd_if, lft_if, unl, bnd_ok, bnd_no, lft_some, lft_none, truth, cmpop, D_non, D_bl, D_int, D_str, D_tup, D_lst, P_non, P_bl, P_int, P_str, P_tup, P_lst, P_nil, P_cons, eqM_d, isIn_t, isIn_l, PV.eqv, eqvAll, isTy, vw, callB, item, atI, tsz, val, asg]
              · have g : ¬ ((if s = [110, 111, 116] then (2 : Int) else if s = [97, 110, 100] ∨ s = [111, 114] then 3 else 0) = 1) := by split <;> (try split) <;> omega
                simp [go, b21, x_k, x_loc, x_glo, x_bin, x_neg, x_not, x_and, x_or, x_cmp, x_cmp2, x_ite, x_nil, x_cons, x_tup, x_lst, x_ix, x_sl, x_call, x_bf, x_isi, x_rng, x_zip, x_comp, x_dget, s_skip, s_seq, s_ex, s_ret, s_asg, s_par, s_ite, s_for, thenS_next, thenS_ret, fin_ret, fin_next, ob_some, obl_bl, bnd_if, lft_if, unl, bnd_ok, bnd_no, lft_some, lft_none, truth, cmpop, D_non, D_bl, D_int, D_str, D_tup, D_lst, P_non, P_bl, P_int, P_str, P_tup, P_lst, P_nil, P_cons, eqM_d, isIn_t, isIn_l, PV.eqv, eqvAll, isTy, vw, callB, item, atI, tsz, val, asg, h1, h2, lkT, g, Ne.symm g]
          · simp [F_non, F_bl, F_int, F_str, F_tup, F_lst, F_cell, F_fn, F_nil, F_cons] at hv
            have ha := flat_D hv
            have w := law_is_whole (n := n + k + 1) (v := a) (lo := 0) (hi := 3) (m := mem) ha
            simp [D_non, D_bl, D_int, D_str, D_tup, D_lst, P_non, P_bl, P_int, P_str, P_tup, P_lst, P_nil, P_cons, eqM_d, isIn_t, isIn_l] at hd
            have rc := ih n a mem hv (by omega)
            have o1 := over1 (n := n + k + 1) (m := mem) (tsz k a)
            by_cases h1 : s = [105, 110]
            · subst h1
              cases h2 : isW a 0 3 with
              | true => simp [go, b21, x_k, x_loc, x_glo, x_bin, x_neg, x_not, x_and, x_or, x_cmp, x_cmp2, x_ite, x_nil, x_cons, x_tup, x_lst, x_ix, x_sl, x_call, x_bf, x_isi, x_rng, x_zip, x_comp, x_dget, s_skip, s_seq, s_ex, s_ret, s_asg, s_par, s_ite, s_for, thenS_next, thenS_ret, fin_ret, fin_next, ob_some, obl_bl, bnd_if, lft_if, unl, bnd_ok, bnd_no, lft_some, lft_none, truth, cmpop, D_non, D_bl, D_int, D_str, D_tup, D_lst, P_non, P_bl, P_int, P_str, P_tup, P_lst, P_nil, P_cons, eqM_d, isIn_t, isIn_l, PV.eqv, eqvAll, isTy, vw, callB, item, atI, tsz, val, asg, w, h2]
              | false => simp [go, b21, x_k, x_loc, x_glo, x_bin, x_neg, x_not, x_and, x_or, x_cmp, x_cmp2, x_ite, x_nil, x_cons, x_tup, x_lst, x_ix, x_sl, x_call, x_bf, x_isi, x_rng, x_zip, x_comp, x_dget, s_skip, s_seq, s_ex, s_ret, s_asg, s_par, s_ite, s_for, thenS_next, thenS_ret, fin_ret, fin_next, ob_some, obl_bl, bnd_if, lft_if, unl, bnd_ok, bnd_no, lft_some, lft_none, truth, cmpop, D_non, D_bl, D_int, D_str, D_tup, D_lst, P_non, P_bl, P_int, P_str, P_tup, P_lst, P_nil, P_cons, eqM_d, isIn_t, isIn_l, PV.eqv, eqvAll, isTy, vw, callB, item, atI, tsz, val, asg, w, h2, lkT]
            · by_cases h2 : s = [102, 105, 101, 108, 100]
              · subst h2
                simp [go, b21, x_k, x_loc, x_glo, x_bin, x_neg, x_not, x_and, x_or, x_cmp, x_cmp2, x_ite, x_nil, x_cons, x_tup, x_lst, x_ix, x_sl, x_call, x_bf, x_isi, x_rng, x_zip, x_comp, x_dget, s_skip, s_seq, s_ex, s_ret, s_asg, s_par, s_ite, s_for, thenS_next, thenS_ret, fin_ret, fin_next, ob_some, obl_bl, bnd_if, lft_if, unl, bnd_ok, bnd_no, lft_some, lft_none, truth, cmpop, D_non, D_bl, D_int, D_str, D_tup, D_lst, P_non, P_bl, P_int, P_str, P_tup, P_lst, P_nil, P_cons, eqM_d, isIn_t, isIn_l, PV.eqv, eqvAll, isTy, vw, callB, item, atI, tsz, val, asg]
              · by_cases h3 : s = [110, 111, 116]
                · subst h3
                  simp [go, b21, x_k, x_loc, x_glo, x_bin, x_neg, x_not, x_and, x_or, x_cmp, x_cmp2, x_ite, x_nil, x_cons, x_tup, x_lst, x_ix, x_sl, x_call, x_bf, x_isi, x_rng, x_zip, x_comp, x_dget, s_skip, s_seq, s_ex, s_ret, s_asg, s_par, s_ite, s_for, thenS_next, thenS_ret, fin_ret, fin_next, ob_some, obl_bl, bnd_if, lft_if, unl, bnd_ok, bnd_no, lft_some, lft_none, truth, cmpop, D_non, D_bl, D_int, D_str, D_tup, D_lst, P_non, P_bl, P_int, P_str, P_tup, P_lst, P_nil, P_cons, eqM_d, isIn_t, isIn_l, PV.eqv, eqvAll, isTy, vw, callB, item, atI, tsz, asg, lkT, compL, cmpB, compT, wipeP, tstB, mkl, slice, optI, small, cut, bound, List.all_cons, List.all_nil, rc, val_D, o1]
                · have g : ¬ ((if s = [97, 110, 100] ∨ s = [111, 114] then (3 : Int) else 0) = 2) := by split <;> omega
                  simp [go, b21, x_k, x_loc, x_glo, x_bin, x_neg, x_not, x_and, x_or, x_cmp, x_cmp2, x_ite, x_nil, x_cons, x_tup, x_lst, x_ix, x_sl, x_call, x_bf, x_isi, x_rng, x_zip, x_comp, x_dget, s_skip, s_seq, s_ex, s_ret, s_asg, s_par, s_ite, s_for, thenS_next, thenS_ret, fin_ret, fin_next, ob_some, obl_bl, bnd_if, lft_if, unl, bnd_ok, bnd_no, lft_some, lft_none, truth, cmpop, D_non, D_bl, D_int, D_str, D_tup, D_lst, P_non, P_bl, P_int, P_str, P_tup, P_lst, P_nil, P_cons, eqM_d, isIn_t, isIn_l, PV.eqv, eqvAll, isTy, vw, callB, item, atI, tsz, val, asg, h1, h2, h3, lkT, g, Ne.symm g]
          · simp [F_non, F_bl, F_int, F_str, F_tup, F_lst, F_cell, F_fn, F_nil, F_cons] at hv
            simp [D_non, D_bl, D_int, D_str, D_tup, D_lst, P_non, P_bl, P_int, P_str, P_tup, P_lst, P_nil, P_cons, eqM_d, isIn_t, isIn_l] at hd
            have ra := ih n a mem hv.1 (by omega)
            have rb := ih n b mem hv.2 (by omega)
            have o2 := over2 (n := n + k + 1) (m := mem) (tsz k a) (tsz k b)
            by_cases h2 : s = [102, 105, 101, 108, 100]
            · subst h2
              simp [go, b21, x_k, x_loc, x_glo, x_bin, x_neg, x_not, x_and, x_or, x_cmp, x_cmp2, x_ite, x_nil, x_cons, x_tup, x_lst, x_ix, x_sl, x_call, x_bf, x_isi, x_rng, x_zip, x_comp, x_dget, s_skip, s_seq, s_ex, s_ret, s_asg, s_par, s_ite, s_for, thenS_next, thenS_ret, fin_ret, fin_next, ob_some, obl_bl, bnd_if, lft_if, unl, bnd_ok, bnd_no, lft_some, lft_none, truth, cmpop, D_non, D_bl, D_int, D_str, D_tup, D_lst, P_non, P_bl, P_int, P_str, P_tup, P_lst, P_nil, P_cons, eqM_d, isIn_t, isIn_l, PV.eqv, eqvAll, isTy, vw, callB, item, atI, tsz, val, asg]
            · by_cases h3 : s = [97, 110, 100] ∨ s = [111, 114]
              · have h4 : ¬ (s = [110, 111, 116]) := by rcases h3 with rfl | rfl <;> decide
                simp [go, b21, x_k, x_loc, x_glo, x_bin, x_neg, x_not, x_and, x_or, x_cmp, x_cmp2, x_ite, x_nil, x_cons, x_tup, x_lst, x_ix, x_sl, x_call, x_bf, x_isi, x_rng, x_zip, x_comp, x_dget, s_skip, s_seq, s_ex, s_ret, s_asg, s_par, s_ite, s_for, thenS_next, thenS_ret, fin_ret, fin_next, ob_some, obl_bl, bnd_if, lft_if, unl, bnd_ok, bnd_no, lft_some, lft_none, truth, cmpop, D_non, D_bl, D_int, D_str, D_tup, D_lst, P_non, P_bl, P_int, P_str, P_tup, P_lst, P_nil, P_cons, eqM_d, isIn_t, isIn_l, PV.eqv, eqvAll, isTy, vw, callB, item, atI, tsz, asg, lkT, compL, cmpB, compT, wipeP, tstB, mkl, slice, optI, small, cut, bound, List.all_cons, List.all_nil, ra, rb, val_D, o2, h2, h3, h4]
              · by_cases h4 : s = [110, 111, 116]
                · subst h4
                  simp [go, b21, x_k, x_loc, x_glo, x_bin, x_neg, x_not, x_and, x_or, x_cmp, x_cmp2, x_ite, x_nil, x_cons, x_tup, x_lst, x_ix, x_sl, x_call, x_bf, x_isi, x_rng, x_zip, x_comp, x_dget, s_skip, s_seq, s_ex, s_ret, s_asg, s_par, s_ite, s_for, thenS_next, thenS_ret, fin_ret, fin_next, ob_some, obl_bl, bnd_if, lft_if, unl, bnd_ok, bnd_no, lft_some, lft_none, truth, cmpop, D_non, D_bl, D_int, D_str, D_tup, D_lst, P_non, P_bl, P_int, P_str, P_tup, P_lst, P_nil, P_cons, eqM_d, isIn_t, isIn_l, PV.eqv, eqvAll, isTy, vw, callB, item, atI, tsz, val, asg, lkT]
                · simp [go, b21, x_k, x_loc, x_glo, x_bin, x_neg, x_not, x_and, x_or, x_cmp, x_cmp2, x_ite, x_nil, x_cons, x_tup, x_lst, x_ix, x_sl, x_call, x_bf, x_isi, x_rng, x_zip, x_comp, x_dget, s_skip, s_seq, s_ex, s_ret, s_asg, s_par, s_ite, s_for, thenS_next, thenS_ret, fin_ret, fin_next, ob_some, obl_bl, bnd_if, lft_if, unl, bnd_ok, bnd_no, lft_some, lft_none, truth, cmpop, D_non, D_bl, D_int, D_str, D_tup, D_lst, P_non, P_bl, P_int, P_str, P_tup, P_lst, P_nil, P_cons, eqM_d, isIn_t, isIn_l, PV.eqv, eqvAll, isTy, vw, callB, item, atI, tsz, val, asg, lkT, h2, h3, h4]
          · simp [F_non, F_bl, F_int, F_str, F_tup, F_lst, F_cell, F_fn, F_nil, F_cons] at hv
            have ha := flat_D hv.1
            have hb := flat_D hv.2.1
            have hc := flat_D hv.2.2
            have w := law_is_whole (n := n + k + 1) (v := b) (lo := 0) (hi := 3) (m := mem) hb
            by_cases h2 : s = [102, 105, 101, 108, 100]
            · subst h2
              cases e1 : isF a with
              | false =>
                have e1' : anyEq a [PV.str [102, 114, 111, 109], PV.str [116, 111], PV.str [109, 97, 114, 107]] = false := e1
                simp [go, b21, x_k, x_loc, x_glo, x_bin, x_neg, x_not, x_and, x_or, x_cmp, x_cmp2, x_ite, x_nil, x_cons, x_tup, x_lst, x_ix, x_sl, x_call, x_bf, x_isi, x_rng, x_zip, x_comp, x_dget, s_skip, s_seq, s_ex, s_ret, s_asg, s_par, s_ite, s_for, thenS_next, thenS_ret, fin_ret, fin_next, ob_some, obl_bl, bnd_if, lft_if, unl, bnd_ok, bnd_no, lft_some, lft_none, truth, cmpop, D_non, D_bl, D_int, D_str, D_tup, D_lst, P_non, P_bl, P_int, P_str, P_tup, P_lst, P_nil, P_cons, eqM_d, isIn_t, isIn_l, PV.eqv, eqvAll, isTy, vw, callB, item, atI, tsz, val, asg, mkl, ha, e1', fieldB, e1]
              | true =>
                have e1' : anyEq a [PV.str [102, 114, 111, 109], PV.str [116, 111], PV.str [109, 97, 114, 107]] = true := e1
                cases e2 : isW b 0 3 with
                | false => simp [go, b21, x_k, x_loc, x_glo, x_bin, x_neg, x_not, x_and, x_or, x_cmp, x_cmp2, x_ite, x_nil, x_cons, x_tup, x_lst, x_ix, x_sl, x_call, x_bf, x_isi, x_rng, x_zip, x_comp, x_dget, s_skip, s_seq, s_ex, s_ret, s_asg, s_par, s_ite, s_for, thenS_next, thenS_ret, fin_ret, fin_next, ob_some, obl_bl, bnd_if, lft_if, unl, bnd_ok, bnd_no, lft_some, lft_none, truth, cmpop, D_non, D_bl, D_int, D_str, D_tup, D_lst, P_non, P_bl, P_int, P_str, P_tup, P_lst, P_nil, P_cons, eqM_d, isIn_t, isIn_l, PV.eqv, eqvAll, isTy, vw, callB, item, atI, tsz, val, asg, mkl, ha, e1', fieldB, e1, e2, w]
                | true =>
                  cases b <;> first | (simp [isW] at e2; done) | skip
                  rename_i i
                  have w2 := law_is_whole (n := n + k + 1) (v := c) (lo := i) (hi := 3) (m := mem) hc
                  cases e3 : isW c i 3 with
                  | false => simp [go, b21, x_k, x_loc, x_glo, x_bin, x_neg, x_not, x_and, x_or, x_cmp, x_cmp2, x_ite, x_nil, x_cons, x_tup, x_lst, x_ix, x_sl, x_call, x_bf, x_isi, x_rng, x_zip, x_comp, x_dget, s_skip, s_seq, s_ex, s_ret, s_asg, s_par, s_ite, s_for, thenS_next, thenS_ret, fin_ret, fin_next, ob_some, obl_bl, bnd_if, lft_if, unl, bnd_ok, bnd_no, lft_some, lft_none, truth, cmpop, D_non, D_bl, D_int, D_str, D_tup, D_lst, P_non, P_bl, P_int, P_str, P_tup, P_lst, P_nil, P_cons, eqM_d, isIn_t, isIn_l, PV.eqv, eqvAll, isTy, vw, callB, item, atI, tsz, val, asg, mkl, ha, e1', fieldB, e1, e2, e3, w, w2, isV]
                  | true => simp [go, b21, x_k, x_loc, x_glo, x_bin, x_neg, x_not, x_and, x_or, x_cmp, x_cmp2, x_ite, x_nil, x_cons, x_tup, x_lst, x_ix, x_sl, x_call, x_bf, x_isi, x_rng, x_zip, x_comp, x_dget, s_skip, s_seq, s_ex, s_ret, s_asg, s_par, s_ite, s_for, thenS_next, thenS_ret, fin_ret, fin_next, ob_some, obl_bl, bnd_if, lft_if, unl, bnd_ok, bnd_no, lft_some, lft_none, truth, cmpop, D_non, D_bl, D_int, D_str, D_tup, D_lst, P_non, P_bl, P_int, P_str, P_tup, P_lst, P_nil, P_cons, eqM_d, isIn_t, isIn_l, PV.eqv, eqvAll, isTy, vw, callB, item, atI, tsz, val, asg, mkl, ha, e1', fieldB, e1, e2, e3, w, w2, isV]
            · have g : ¬ ((if s = [110, 111, 116] then (2 : Int) else if s = [97, 110, 100] ∨ s = [111, 114] then 3 else 0) = 4) := by split <;> (try split) <;> omega
              simp [go, b21, x_k, x_loc, x_glo, x_bin, x_neg, x_not, x_and, x_or, x_cmp, x_cmp2, x_ite, x_nil, x_cons, x_tup, x_lst, x_ix, x_sl, x_call, x_bf, x_isi, x_rng, x_zip, x_comp, x_dget, s_skip, s_seq, s_ex, s_ret, s_asg, s_par, s_ite, s_for, thenS_next, thenS_ret, fin_ret, fin_next, ob_some, obl_bl, bnd_if, lft_if, unl, bnd_ok, bnd_no, lft_some, lft_none, truth, cmpop, D_non, D_bl, D_int, D_str, D_tup, D_lst, P_non, P_bl, P_int, P_str, P_tup, P_lst, P_nil, P_cons, eqM_d, isIn_t, isIn_l, PV.eqv, eqvAll, isTy, vw, callB, item, atI, tsz, val, asg, h2, lkT, g, Ne.symm g]
          · have e := tsz_no (k := k) (v := .tup (.str s :: a :: b :: c :: d :: l)) hdd_long
            have g1 : ∀ i : Int, i ≤ 4 → ¬ ((l.length : Int) + 1 + 1 + 1 + 1 + 1 = i) := fun i hi => by omega
            have g0 : (0 : Int) < (l.length : Int) + 1 + 1 + 1 + 1 + 1 := by omega
            have g : ¬ ((l.length : Int) + 1 + 1 + 1 + 1 + 1 = (if s = [110, 111, 116] then (2 : Int) else if s = [97, 110, 100] ∨ s = [111, 114] then 3 else 0)) := by split <;> (try split) <;> omega
            simp [e, go, b21, x_k, x_loc, x_glo, x_bin, x_neg, x_not, x_and, x_or, x_cmp, x_cmp2, x_ite, x_nil, x_cons, x_tup, x_lst, x_ix, x_sl, x_call, x_bf, x_isi, x_rng, x_zip, x_comp, x_dget, s_skip, s_seq, s_ex, s_ret, s_asg, s_par, s_ite, s_for, thenS_next, thenS_ret, fin_ret, fin_next, ob_some, obl_bl, bnd_if, lft_if, unl, bnd_ok, bnd_no, lft_some, lft_none, truth, cmpop, D_non, D_bl, D_int, D_str, D_tup, D_lst, P_non, P_bl, P_int, P_str, P_tup, P_lst, P_nil, P_cons, eqM_d, isIn_t, isIn_l, PV.eqv, eqvAll, isTy, vw, callB, item, atI, val, asg, lkT, g, g0, g1]
            try (split <;> rfl)
        · have e := tsz_no (k := k) (hdd_of (l := l) fun s z => hs ⟨s, z⟩)
          cases x <;> first | (simp [F_non, F_bl, F_int, F_str, F_tup, F_lst, F_cell, F_fn, F_nil, F_cons] at hx; done) | (exact absurd ⟨_, rfl⟩ hs) | simp [e, go, b21, x_k, x_loc, x_glo, x_bin, x_neg, x_not, x_and, x_or, x_cmp, x_cmp2, x_ite, x_nil, x_cons, x_tup, x_lst, x_ix, x_sl, x_call, x_bf, x_isi, x_rng, x_zip, x_comp, x_dget, s_skip, s_seq, s_ex, s_ret, s_asg, s_par, s_ite, s_for, thenS_next, thenS_ret, fin_ret, fin_next, ob_some, obl_bl, bnd_if, lft_if, unl, bnd_ok, bnd_no, lft_some, lft_none, truth, cmpop, D_non, D_bl, D_int, D_str, D_tup, D_lst, P_non, P_bl, P_int, P_str, P_tup, P_lst, P_nil, P_cons, eqM_d, isIn_t, isIn_l, PV.eqv, isTy, vw, callB, item, atI, val]
    | _ => first | (simp [F_non, F_bl, F_int, F_str, F_tup, F_lst, F_cell, F_fn, F_nil, F_cons] at hv; done) | simp [tsz, go, b21, x_k, x_loc, x_glo, x_bin, x_neg, x_not, x_and, x_or, x_cmp, x_cmp2, x_ite, x_nil, x_cons, x_tup, x_lst, x_ix, x_sl, x_call, x_bf, x_isi, x_rng, x_zip, x_comp, x_dget, s_skip, s_seq, s_ex, s_ret, s_asg, s_par, s_ite, s_for, thenS_next, thenS_ret, fin_ret, fin_next, ob_some, obl_bl, bnd_if, lft_if, unl, bnd_ok, bnd_no, lft_some, lft_none, truth, cmpop, D_non, D_bl, D_int, D_str, D_tup, D_lst, P_non, P_bl, P_int, P_str, P_tup, P_lst, P_nil, P_cons, eqM_d, isIn_t, isIn_l, PV.eqv, isTy, vw, callB, val]
end P00
set_option maxHeartbeats 4000000
namespace P00
open Pv
theorem r4 (n : Nat) (a : PV) (m : Mem) : run prg (n + 1) 4 [a] m = go b4 1 3 n [a] m := rfl
theorem r7 (n : Nat) (a : PV) (m : Mem) : run prg (n + 1) 7 [a] m = go b7 1 1 n [a] m := rfl
theorem r8 (n : Nat) (a : PV) (m : Mem) : run prg (n + 1) 8 [a] m = go b8 1 2 n [a] m := rfl
theorem r9 (n : Nat) (a : PV) (m : Mem) : run prg (n + 1) 9 [a] m = go b9 1 3 n [a] m := rfl
def ascI : List Int → Bool
  | a :: b :: r => decide (a < b) && ascI (b :: r)
  | _ => true
theorem ascending {n : Nat} {m : Mem} (is : List Int) (h : is.length ≤ 4) : run prg (n + 1) 4 [.tup (is.map .int)] m = .ok (.bl (ascI is)) m := by
  rw [r4]
  rcases is with _ | ⟨a, _ | ⟨b, _ | ⟨c, _ | ⟨d, _ | ⟨e, r⟩⟩⟩⟩⟩
  · simp [go, b4, x_k, x_loc, x_glo, x_bin, x_neg, x_not, x_and, x_or, x_cmp, x_cmp2, x_ite, x_nil, x_cons, x_tup, x_lst, x_ix, x_sl, x_call, x_bf, x_isi, x_rng, x_zip, x_comp, x_dget, s_skip, s_seq, s_ex, s_ret, s_asg, s_par, s_ite, s_for, thenS_next, thenS_ret, fin_ret, fin_next, ob_some, obl_bl, bnd_if, lft_if, unl, bnd_ok, bnd_no, lft_some, lft_none, slice, optI, small, vw, cut, bound, zipL, compL, mkl, callB, boolsOf, ascI]
  · simp [go, b4, x_k, x_loc, x_glo, x_bin, x_neg, x_not, x_and, x_or, x_cmp, x_cmp2, x_ite, x_nil, x_cons, x_tup, x_lst, x_ix, x_sl, x_call, x_bf, x_isi, x_rng, x_zip, x_comp, x_dget, s_skip, s_seq, s_ex, s_ret, s_asg, s_par, s_ite, s_for, thenS_next, thenS_ret, fin_ret, fin_next, ob_some, obl_bl, bnd_if, lft_if, unl, bnd_ok, bnd_no, lft_some, lft_none, slice, optI, small, vw, cut, bound, zipL, compL, mkl, callB, boolsOf, ascI]
  · simp [go, b4, x_k, x_loc, x_glo, x_bin, x_neg, x_not, x_and, x_or, x_cmp, x_cmp2, x_ite, x_nil, x_cons, x_tup, x_lst, x_ix, x_sl, x_call, x_bf, x_isi, x_rng, x_zip, x_comp, x_dget, s_skip, s_seq, s_ex, s_ret, s_asg, s_par, s_ite, s_for, thenS_next, thenS_ret, fin_ret, fin_next, ob_some, obl_bl, bnd_if, lft_if, unl, bnd_ok, bnd_no, lft_some, lft_none, slice, optI, small, vw, cut, bound, zipL, compL, mkl, callB, boolsOf, ascI, cmpB, compT, asg, wipeP, tstB, truth, cmpop, PV.lt, D_non, D_bl, D_int, D_str, D_tup, D_lst, P_non, P_bl, P_int, P_str, P_tup, P_lst, P_nil, P_cons, eqM_d, isIn_t, isIn_l]
  · simp [go, b4, x_k, x_loc, x_glo, x_bin, x_neg, x_not, x_and, x_or, x_cmp, x_cmp2, x_ite, x_nil, x_cons, x_tup, x_lst, x_ix, x_sl, x_call, x_bf, x_isi, x_rng, x_zip, x_comp, x_dget, s_skip, s_seq, s_ex, s_ret, s_asg, s_par, s_ite, s_for, thenS_next, thenS_ret, fin_ret, fin_next, ob_some, obl_bl, bnd_if, lft_if, unl, bnd_ok, bnd_no, lft_some, lft_none, slice, optI, small, vw, cut, bound, zipL, compL, mkl, callB, boolsOf, ascI, cmpB, compT, asg, wipeP, tstB, truth, cmpop, PV.lt, D_non, D_bl, D_int, D_str, D_tup, D_lst, P_non, P_bl, P_int, P_str, P_tup, P_lst, P_nil, P_cons, eqM_d, isIn_t, isIn_l]
  · simp [go, b4, x_k, x_loc, x_glo, x_bin, x_neg, x_not, x_and, x_or, x_cmp, x_cmp2, x_ite, x_nil, x_cons, x_tup, x_lst, x_ix, x_sl, x_call, x_bf, x_isi, x_rng, x_zip, x_comp, x_dget, s_skip, s_seq, s_ex, s_ret, s_asg, s_par, s_ite, s_for, thenS_next, thenS_ret, fin_ret, fin_next, ob_some, obl_bl, bnd_if, lft_if, unl, bnd_ok, bnd_no, lft_some, lft_none, slice, optI, small, vw, cut, bound, zipL, compL, mkl, callB, boolsOf, ascI, cmpB, compT, asg, wipeP, tstB, truth, cmpop, PV.lt, D_non, D_bl, D_int, D_str, D_tup, D_lst, P_non, P_bl, P_int, P_str, P_tup, P_lst, P_nil, P_cons, eqM_d, isIn_t, isIn_l]
  · simp at h
/-- switches -/
def ints? : List PV → Option (List Int)
  | [] => some []
  | .int i :: l => if 0 ≤ i ∧ i ≤ 3 then (ints? l).map (i :: ·) else none
  | _ :: _ => none
def swB : PV → Bool
  | .tup l => decide (1 ≤ l.length) && decide (l.length ≤ 4) && (match ints? l with
    | some is => ascI is
    | none => false)
  | _ => false
theorem ints_all : ∀ {l : List PV}, (l.all fun v => isW v 0 3) = (ints? l).isSome
  | [] => rfl
  | x :: l => by
    rw [List.all_cons, ints_all]
    cases x <;> simp [isW, ints?]
    rename_i i
    by_cases h : 0 ≤ i ∧ i ≤ 3
    · simp [h]
    · rw [if_neg h]
      simp only [not_and] at h
      by_cases h0 : 0 ≤ i
      · simp [h0, h h0]
      · simp [h0]
theorem ints_map : ∀ {l : List PV} {is : List Int}, ints? l = some is → l = is.map .int
  | [], is, h => by cases h; rfl
  | x :: l, is, h => by
    cases x <;> simp [ints?] at h
    obtain ⟨_, js, h1, rfl⟩ := h
    rw [ints_map h1]; rfl
theorem are_switches {n : Nat} {v : PV} {m : Mem} (hv : v.flat = true) : run prg (n + 2) 8 [v] m = .ok (.bl (swB v)) m := by
  have hd := flat_D hv
  rw [r8]
  have t := is_tuple_of (n := n) (v := v) (lo := 1) (hi := 4) (m := m) hd
  cases v with
  | tup l =>
    have w : ∀ x ∈ l, run prg (n + 1) 0 [x, .int 0, .int 3] m = .ok (.bl (isW x 0 3)) m := fun x hx => is_whole (by
      have : ∀ {l : List PV}, flatAll l = true → ∀ x ∈ l, x.flat = true := by
        intro l
        induction l with
        | nil => intro _ x hx; simp at hx
        | cons y l ih =>
          intro h x hx
          simp [F_cons] at h
          rcases List.mem_cons.mp hx with rfl | hx
          · exact h.1
          · exact ih h.2 x hx
      simp only [F_tup] at hv
      exact flat_D (this hv x hx))
    by_cases h1 : 1 ≤ l.length ∧ l.length ≤ 4
    · have h2 : (1 : Int) ≤ l.length ∧ (l.length : Int) ≤ 4 := by omega
      have key : compL (cmpB con (run prg (n + 1)) [some (.tup l), none] [1] (.v 1) (.k (.bl true)) (.call 0 ((E.loc 1).cons ((E.k (.int 0)).cons ((E.bin false Op.sub (E.glo 3) (E.k (.int 1))).cons E.nil))))) l m = .ok (l.map fun x => .bl (isW x 0 3)) m := by
        rw [compL_pure (g := fun x => some (.bl (isW x 0 3)))]
        · simp
        · intro x hx
          simp [cmpB, asg, wipeP, compT, x_k, x_loc, x_glo, x_bin, x_neg, x_not, x_and, x_or, x_cmp, x_cmp2, x_ite, x_nil, x_cons, x_tup, x_lst, x_ix, x_sl, x_call, x_bf, x_isi, x_rng, x_zip, x_comp, x_dget, s_skip, s_seq, s_ex, s_ret, s_asg, s_par, s_ite, s_for, thenS_next, thenS_ret, fin_ret, fin_next, ob_some, obl_bl, bnd_if, lft_if, unl, bnd_ok, bnd_no, lft_some, lft_none, tstB, truth, con3, binop, vw, arith, w x hx]
      have hb : ∀ k : List PV, boolsOf (k.map fun x => .bl (isW x 0 3)) = some (k.map fun x => isW x 0 3) := by
        intro k
        induction k with
        | nil => rfl
        | cons x k ih => simp [boolsOf, ih]
      have hD : ∀ k : List PV, ((k.map fun x => PV.bl (isW x 0 3)).all PV.isD) = true := by
        intro k
        induction k with
        | nil => rfl
        | cons x k ih => rw [List.map_cons, List.all_cons, ih]; rfl
      have hall : ((l.map fun x => isW x 0 3).all id) = (ints? l).isSome := by
        rw [← ints_all, List.all_map]; rfl
      simp [go, b8, x_k, x_loc, x_glo, x_bin, x_neg, x_not, x_and, x_or, x_cmp, x_cmp2, x_ite, x_nil, x_cons, x_tup, x_lst, x_ix, x_sl, x_call, x_bf, x_isi, x_rng, x_zip, x_comp, x_dget, s_skip, s_seq, s_ex, s_ret, s_asg, s_par, s_ite, s_for, thenS_next, thenS_ret, fin_ret, fin_next, ob_some, obl_bl, bnd_if, lft_if, unl, bnd_ok, bnd_no, lft_some, lft_none, con3, t, h2, truth, key, mkl, D_non, D_bl, D_int, D_str, D_tup, D_lst, P_non, P_bl, P_int, P_str, P_tup, P_lst, P_nil, P_cons, eqM_d, isIn_t, isIn_l, callB, vw, hb, hall]
      cases e : ints? l with
      | none => simp [swB, e, fin_ret]
      | some is =>
        have el := ints_map e
        subst el
        have := ascending (n := n) (m := m) is (by simpa using h1.2)
        simp [swB, e, x_k, x_loc, x_glo, x_bin, x_neg, x_not, x_and, x_or, x_cmp, x_cmp2, x_ite, x_nil, x_cons, x_tup, x_lst, x_ix, x_sl, x_call, x_bf, x_isi, x_rng, x_zip, x_comp, x_dget, s_skip, s_seq, s_ex, s_ret, s_asg, s_par, s_ite, s_for, thenS_next, thenS_ret, fin_ret, fin_next, ob_some, obl_bl, bnd_if, lft_if, unl, bnd_ok, bnd_no, lft_some, lft_none, this]
        intro q; simp at h1; omega
    · have h2 : ¬ ((1 : Int) ≤ l.length ∧ (l.length : Int) ≤ 4) := by omega
      have h3 : (decide ((1 : Int) ≤ l.length) && decide ((l.length : Int) ≤ 4)) = false := by
        simp; omega
      have h4 : swB (.tup l) = false := by
        simp [swB]; intro a b; omega
      rw [h4]
      simp only [h3] at t
      simp [go, b8, x_k, x_loc, x_glo, x_bin, x_neg, x_not, x_and, x_or, x_cmp, x_cmp2, x_ite, x_nil, x_cons, x_tup, x_lst, x_ix, x_sl, x_call, x_bf, x_isi, x_rng, x_zip, x_comp, x_dget, s_skip, s_seq, s_ex, s_ret, s_asg, s_par, s_ite, s_for, thenS_next, thenS_ret, fin_ret, fin_next, ob_some, obl_bl, bnd_if, lft_if, unl, bnd_ok, bnd_no, lft_some, lft_none, con3, t, truth]
  | _ => first | (simp [F_non, F_bl, F_int, F_str, F_tup, F_lst, F_cell, F_fn, F_nil, F_cons] at hv; done) | simp [go, b8, x_k, x_loc, x_glo, x_bin, x_neg, x_not, x_and, x_or, x_cmp, x_cmp2, x_ite, x_nil, x_cons, x_tup, x_lst, x_ix, x_sl, x_call, x_bf, x_isi, x_rng, x_zip, x_comp, x_dget, s_skip, s_seq, s_ex, s_ret, s_asg, s_par, s_ite, s_for, thenS_next, thenS_ret, fin_ret, fin_next, ob_some, obl_bl, bnd_if, lft_if, unl, bnd_ok, bnd_no, lft_some, lft_none, con3, t, truth, swB]
end P00
set_option maxHeartbeats 4000000
namespace P00
open Pv
theorem r10 (n : Nat) (a b c : PV) (m : Mem) : run prg (n + 1) 10 [a, b, c] m = go b10 3 6 n [a, b, c] m := rfl
def leafB : PV → Bool
  | .tup [.str s] => decide (s = [100, 114, 111, 112] ∨ s = [112, 97, 115, 115])
  | .tup [.str s, a] => decide (s = [111, 117, 116]) && isW a 0 3
  | .tup [.str s, a, b] => decide (s = [115, 101, 116]) && isF a && isW b 0 3
  | _ => false
theorem in2 {s x y : List Nat} : (anyEq (.str s) [.str x, .str y]) = decide (s = x ∨ s = y) := by
  by_cases h1 : s = x
  · subst h1; simp [anyEq, PV.eqv]
  · by_cases h2 : s = y
    · subst h2; simp [anyEq, PV.eqv]
    · simp [anyEq, PV.eqv, h1, h2, Ne.symm h1, Ne.symm h2]
theorem is_leaf {n : Nat} {v : PV} {m : Mem} (hv : v.flat = true) (hh : hdd v = true) : run prg (n + 2) 7 [v] m = .ok (.bl (leafB v)) m := by
  rw [r7]
  unfold hdd at hh
  split at hh
  · rename_i s
    by_cases h1 : s = [100, 114, 111, 112] ∨ s = [112, 97, 115, 115]
    · simp [go, b7, x_k, x_loc, x_glo, x_bin, x_neg, x_not, x_and, x_or, x_cmp, x_cmp2, x_ite, x_nil, x_cons, x_tup, x_lst, x_ix, x_sl, x_call, x_bf, x_isi, x_rng, x_zip, x_comp, x_dget, s_skip, s_seq, s_ex, s_ret, s_asg, s_par, s_ite, s_for, thenS_next, thenS_ret, fin_ret, fin_next, ob_some, obl_bl, bnd_if, lft_if, unl, bnd_ok, bnd_no, lft_some, lft_none, truth, cmpop, D_non, D_bl, D_int, D_str, D_tup, D_lst, P_non, P_bl, P_int, P_str, P_tup, P_lst, P_nil, P_cons, eqM_d, isIn_t, isIn_l, PV.eqv, item, vw, atI, callB, leafB, in2, h1]
    · by_cases h2 : s = [111, 117, 116]
      · subst h2
        simp [go, b7, x_k, x_loc, x_glo, x_bin, x_neg, x_not, x_and, x_or, x_cmp, x_cmp2, x_ite, x_nil, x_cons, x_tup, x_lst, x_ix, x_sl, x_call, x_bf, x_isi, x_rng, x_zip, x_comp, x_dget, s_skip, s_seq, s_ex, s_ret, s_asg, s_par, s_ite, s_for, thenS_next, thenS_ret, fin_ret, fin_next, ob_some, obl_bl, bnd_if, lft_if, unl, bnd_ok, bnd_no, lft_some, lft_none, truth, cmpop, D_non, D_bl, D_int, D_str, D_tup, D_lst, P_non, P_bl, P_int, P_str, P_tup, P_lst, P_nil, P_cons, eqM_d, isIn_t, isIn_l, PV.eqv, item, vw, atI, callB, leafB, in2]
      · have h3 : ¬ (s = [100, 114, 111, 112]) ∧ ¬ (s = [112, 97, 115, 115]) := by simpa using h1
        by_cases h4 : s = [115, 101, 116]
        · subst h4
          simp [go, b7, x_k, x_loc, x_glo, x_bin, x_neg, x_not, x_and, x_or, x_cmp, x_cmp2, x_ite, x_nil, x_cons, x_tup, x_lst, x_ix, x_sl, x_call, x_bf, x_isi, x_rng, x_zip, x_comp, x_dget, s_skip, s_seq, s_ex, s_ret, s_asg, s_par, s_ite, s_for, thenS_next, thenS_ret, fin_ret, fin_next, ob_some, obl_bl, bnd_if, lft_if, unl, bnd_ok, bnd_no, lft_some, lft_none, truth, cmpop, D_non, D_bl, D_int, D_str, D_tup, D_lst, P_non, P_bl, P_int, P_str, P_tup, P_lst, P_nil, P_cons, eqM_d, isIn_t, isIn_l, PV.eqv, item, vw, atI, callB, leafB, in2]
        · simp [go, b7, x_k, x_loc, x_glo, x_bin, x_neg, x_not, x_and, x_or, x_cmp, x_cmp2, x_ite, x_nil, x_cons, x_tup, x_lst, x_ix, x_sl, x_call, x_bf, x_isi, x_rng, x_zip, x_comp, x_dget, s_skip, s_seq, s_ex, s_ret, s_asg, s_par, s_ite, s_for, thenS_next, thenS_ret, fin_ret, fin_next, ob_some, obl_bl, bnd_if, lft_if, unl, bnd_ok, bnd_no, lft_some, lft_none, truth, cmpop, D_non, D_bl, D_int, D_str, D_tup, D_lst, P_non, P_bl, P_int, P_str, P_tup, P_lst, P_nil, P_cons, eqM_d, isIn_t, isIn_l, PV.eqv, item, vw, atI, callB, leafB, in2, h3, h2, h4]
  · rename_i s a
    simp [F_non, F_bl, F_int, F_str, F_tup, F_lst, F_cell, F_fn, F_nil, F_cons] at hv
    have w := is_whole (n := n) (v := a) (lo := 0) (hi := 3) (m := m) (flat_D hv)
    by_cases h1 : s = [100, 114, 111, 112] ∨ s = [112, 97, 115, 115]
    · have h2 : ¬ (s = [111, 117, 116]) := by rcases h1 with rfl | rfl <;> decide
      simp [go, b7, x_k, x_loc, x_glo, x_bin, x_neg, x_not, x_and, x_or, x_cmp, x_cmp2, x_ite, x_nil, x_cons, x_tup, x_lst, x_ix, x_sl, x_call, x_bf, x_isi, x_rng, x_zip, x_comp, x_dget, s_skip, s_seq, s_ex, s_ret, s_asg, s_par, s_ite, s_for, thenS_next, thenS_ret, fin_ret, fin_next, ob_some, obl_bl, bnd_if, lft_if, unl, bnd_ok, bnd_no, lft_some, lft_none, truth, cmpop, D_non, D_bl, D_int, D_str, D_tup, D_lst, P_non, P_bl, P_int, P_str, P_tup, P_lst, P_nil, P_cons, eqM_d, isIn_t, isIn_l, PV.eqv, item, vw, atI, callB, leafB, in2, h1, h2]
    · by_cases h2 : s = [111, 117, 116]
      · subst h2
        simp [go, b7, x_k, x_loc, x_glo, x_bin, x_neg, x_not, x_and, x_or, x_cmp, x_cmp2, x_ite, x_nil, x_cons, x_tup, x_lst, x_ix, x_sl, x_call, x_bf, x_isi, x_rng, x_zip, x_comp, x_dget, s_skip, s_seq, s_ex, s_ret, s_asg, s_par, s_ite, s_for, thenS_next, thenS_ret, fin_ret, fin_next, ob_some, obl_bl, bnd_if, lft_if, unl, bnd_ok, bnd_no, lft_some, lft_none, truth, cmpop, D_non, D_bl, D_int, D_str, D_tup, D_lst, P_non, P_bl, P_int, P_str, P_tup, P_lst, P_nil, P_cons, eqM_d, isIn_t, isIn_l, PV.eqv, item, vw, atI, callB, leafB, in2, con2, binop, arith, w]
      · by_cases h4 : s = [115, 101, 116]
        · subst h4
          simp [go, b7, x_k, x_loc, x_glo, x_bin, x_neg, x_not, x_and, x_or, x_cmp, x_cmp2, x_ite, x_nil, x_cons, x_tup, x_lst, x_ix, x_sl, x_call, x_bf, x_isi, x_rng, x_zip, x_comp, x_dget, s_skip, s_seq, s_ex, s_ret, s_asg, s_par, s_ite, s_for, thenS_next, thenS_ret, fin_ret, fin_next, ob_some, obl_bl, bnd_if, lft_if, unl, bnd_ok, bnd_no, lft_some, lft_none, truth, cmpop, D_non, D_bl, D_int, D_str, D_tup, D_lst, P_non, P_bl, P_int, P_str, P_tup, P_lst, P_nil, P_cons, eqM_d, isIn_t, isIn_l, PV.eqv, item, vw, atI, callB, leafB, in2]
        · have h3 : ¬ (s = [100, 114, 111, 112]) ∧ ¬ (s = [112, 97, 115, 115]) := by simpa using h1
          simp [go, b7, x_k, x_loc, x_glo, x_bin, x_neg, x_not, x_and, x_or, x_cmp, x_cmp2, x_ite, x_nil, x_cons, x_tup, x_lst, x_ix, x_sl, x_call, x_bf, x_isi, x_rng, x_zip, x_comp, x_dget, s_skip, s_seq, s_ex, s_ret, s_asg, s_par, s_ite, s_for, thenS_next, thenS_ret, fin_ret, fin_next, ob_some, obl_bl, bnd_if, lft_if, unl, bnd_ok, bnd_no, lft_some, lft_none, truth, cmpop, D_non, D_bl, D_int, D_str, D_tup, D_lst, P_non, P_bl, P_int, P_str, P_tup, P_lst, P_nil, P_cons, eqM_d, isIn_t, isIn_l, PV.eqv, item, vw, atI, callB, leafB, in2, h3, h2, h4]
  · rename_i s a b
    simp [F_non, F_bl, F_int, F_str, F_tup, F_lst, F_cell, F_fn, F_nil, F_cons] at hv
    have w := is_whole (n := n) (v := b) (lo := 0) (hi := 3) (m := m) (flat_D hv.2)
    have w2 := is_word (n := n) (v := a) (m := m) (flat_D hv.1)
    by_cases h1 : s = [100, 114, 111, 112] ∨ s = [112, 97, 115, 115]
    · have h2 : ¬ (s = [115, 101, 116]) := by rcases h1 with rfl | rfl <;> decide
      simp [go, b7, x_k, x_loc, x_glo, x_bin, x_neg, x_not, x_and, x_or, x_cmp, x_cmp2, x_ite, x_nil, x_cons, x_tup, x_lst, x_ix, x_sl, x_call, x_bf, x_isi, x_rng, x_zip, x_comp, x_dget, s_skip, s_seq, s_ex, s_ret, s_asg, s_par, s_ite, s_for, thenS_next, thenS_ret, fin_ret, fin_next, ob_some, obl_bl, bnd_if, lft_if, unl, bnd_ok, bnd_no, lft_some, lft_none, truth, cmpop, D_non, D_bl, D_int, D_str, D_tup, D_lst, P_non, P_bl, P_int, P_str, P_tup, P_lst, P_nil, P_cons, eqM_d, isIn_t, isIn_l, PV.eqv, item, vw, atI, callB, leafB, in2, h1, h2]
    · by_cases h2 : s = [111, 117, 116]
      · subst h2
        simp [go, b7, x_k, x_loc, x_glo, x_bin, x_neg, x_not, x_and, x_or, x_cmp, x_cmp2, x_ite, x_nil, x_cons, x_tup, x_lst, x_ix, x_sl, x_call, x_bf, x_isi, x_rng, x_zip, x_comp, x_dget, s_skip, s_seq, s_ex, s_ret, s_asg, s_par, s_ite, s_for, thenS_next, thenS_ret, fin_ret, fin_next, ob_some, obl_bl, bnd_if, lft_if, unl, bnd_ok, bnd_no, lft_some, lft_none, truth, cmpop, D_non, D_bl, D_int, D_str, D_tup, D_lst, P_non, P_bl, P_int, P_str, P_tup, P_lst, P_nil, P_cons, eqM_d, isIn_t, isIn_l, PV.eqv, item, vw, atI, callB, leafB, in2]
      · have h3 : ¬ (s = [100, 114, 111, 112]) ∧ ¬ (s = [112, 97, 115, 115]) := by simpa using h1
        by_cases h4 : s = [115, 101, 116]
        · subst h4
          cases e : isF a <;> simp [go, b7, x_k, x_loc, x_glo, x_bin, x_neg, x_not, x_and, x_or, x_cmp, x_cmp2, x_ite, x_nil, x_cons, x_tup, x_lst, x_ix, x_sl, x_call, x_bf, x_isi, x_rng, x_zip, x_comp, x_dget, s_skip, s_seq, s_ex, s_ret, s_asg, s_par, s_ite, s_for, thenS_next, thenS_ret, fin_ret, fin_next, ob_some, obl_bl, bnd_if, lft_if, unl, bnd_ok, bnd_no, lft_some, lft_none, truth, cmpop, D_non, D_bl, D_int, D_str, D_tup, D_lst, P_non, P_bl, P_int, P_str, P_tup, P_lst, P_nil, P_cons, eqM_d, isIn_t, isIn_l, PV.eqv, item, vw, atI, callB, leafB, in2, con0, con1, w, w2, e]
        · simp [go, b7, x_k, x_loc, x_glo, x_bin, x_neg, x_not, x_and, x_or, x_cmp, x_cmp2, x_ite, x_nil, x_cons, x_tup, x_lst, x_ix, x_sl, x_call, x_bf, x_isi, x_rng, x_zip, x_comp, x_dget, s_skip, s_seq, s_ex, s_ret, s_asg, s_par, s_ite, s_for, thenS_next, thenS_ret, fin_ret, fin_next, ob_some, obl_bl, bnd_if, lft_if, unl, bnd_ok, bnd_no, lft_some, lft_none, truth, cmpop, D_non, D_bl, D_int, D_str, D_tup, D_lst, P_non, P_bl, P_int, P_str, P_tup, P_lst, P_nil, P_cons, eqM_d, isIn_t, isIn_l, PV.eqv, item, vw, atI, callB, leafB, in2, h3, h2, h4]
  · rename_i s a b c
    by_cases h1 : s = [100, 114, 111, 112] ∨ s = [112, 97, 115, 115]
    · simp [go, b7, x_k, x_loc, x_glo, x_bin, x_neg, x_not, x_and, x_or, x_cmp, x_cmp2, x_ite, x_nil, x_cons, x_tup, x_lst, x_ix, x_sl, x_call, x_bf, x_isi, x_rng, x_zip, x_comp, x_dget, s_skip, s_seq, s_ex, s_ret, s_asg, s_par, s_ite, s_for, thenS_next, thenS_ret, fin_ret, fin_next, ob_some, obl_bl, bnd_if, lft_if, unl, bnd_ok, bnd_no, lft_some, lft_none, truth, cmpop, D_non, D_bl, D_int, D_str, D_tup, D_lst, P_non, P_bl, P_int, P_str, P_tup, P_lst, P_nil, P_cons, eqM_d, isIn_t, isIn_l, PV.eqv, item, vw, atI, callB, leafB, in2, h1]
    · have h3 : ¬ (s = [100, 114, 111, 112]) ∧ ¬ (s = [112, 97, 115, 115]) := by simpa using h1
      by_cases h2 : s = [111, 117, 116]
      · subst h2
        simp [go, b7, x_k, x_loc, x_glo, x_bin, x_neg, x_not, x_and, x_or, x_cmp, x_cmp2, x_ite, x_nil, x_cons, x_tup, x_lst, x_ix, x_sl, x_call, x_bf, x_isi, x_rng, x_zip, x_comp, x_dget, s_skip, s_seq, s_ex, s_ret, s_asg, s_par, s_ite, s_for, thenS_next, thenS_ret, fin_ret, fin_next, ob_some, obl_bl, bnd_if, lft_if, unl, bnd_ok, bnd_no, lft_some, lft_none, truth, cmpop, D_non, D_bl, D_int, D_str, D_tup, D_lst, P_non, P_bl, P_int, P_str, P_tup, P_lst, P_nil, P_cons, eqM_d, isIn_t, isIn_l, PV.eqv, item, vw, atI, callB, leafB, in2]
      · by_cases h4 : s = [115, 101, 116]
        · subst h4
          simp [go, b7, x_k, x_loc, x_glo, x_bin, x_neg, x_not, x_and, x_or, x_cmp, x_cmp2, x_ite, x_nil, x_cons, x_tup, x_lst, x_ix, x_sl, x_call, x_bf, x_isi, x_rng, x_zip, x_comp, x_dget, s_skip, s_seq, s_ex, s_ret, s_asg, s_par, s_ite, s_for, thenS_next, thenS_ret, fin_ret, fin_next, ob_some, obl_bl, bnd_if, lft_if, unl, bnd_ok, bnd_no, lft_some, lft_none, truth, cmpop, D_non, D_bl, D_int, D_str, D_tup, D_lst, P_non, P_bl, P_int, P_str, P_tup, P_lst, P_nil, P_cons, eqM_d, isIn_t, isIn_l, PV.eqv, item, vw, atI, callB, leafB, in2]
        · simp [go, b7, x_k, x_loc, x_glo, x_bin, x_neg, x_not, x_and, x_or, x_cmp, x_cmp2, x_ite, x_nil, x_cons, x_tup, x_lst, x_ix, x_sl, x_call, x_bf, x_isi, x_rng, x_zip, x_comp, x_dget, s_skip, s_seq, s_ex, s_ret, s_asg, s_par, s_ite, s_for, thenS_next, thenS_ret, fin_ret, fin_next, ob_some, obl_bl, bnd_if, lft_if, unl, bnd_ok, bnd_no, lft_some, lft_none, truth, cmpop, D_non, D_bl, D_int, D_str, D_tup, D_lst, P_non, P_bl, P_int, P_str, P_tup, P_lst, P_nil, P_cons, eqM_d, isIn_t, isIn_l, PV.eqv, item, vw, atI, callB, leafB, in2, h3, h2, h4]
  · cases hh
def partsV : PV → PV
  | .tup [.str s, a, b] => if s = [98, 111, 116, 104] ∨ s = [116, 104, 101, 110] then .tup [a, b] else if s = [97, 116] ∧ swB a = true then .tup [b] else .non
  | .tup [.str s, a, b, c] => if s = [105, 102] then .tup [b, c] else .non
  | _ => .non
theorem parts_in {n : Nat} {v : PV} {m : Mem} (hv : v.flat = true) (hh : hdd v = true) : run prg (n + 3) 9 [v] m = .ok (partsV v) m := by
  rw [show n + 3 = (n + 2) + 1 from rfl, r9]
  unfold hdd at hh
  split at hh
  · rename_i s
    by_cases h1 : s = [98, 111, 116, 104] ∨ s = [116, 104, 101, 110]
    · have h2 : ¬ (s = [105, 102]) ∧ ¬ (s = [97, 116]) := by rcases h1 with rfl | rfl <;> decide
      simp [go, b9, x_k, x_loc, x_glo, x_bin, x_neg, x_not, x_and, x_or, x_cmp, x_cmp2, x_ite, x_nil, x_cons, x_tup, x_lst, x_ix, x_sl, x_call, x_bf, x_isi, x_rng, x_zip, x_comp, x_dget, s_skip, s_seq, s_ex, s_ret, s_asg, s_par, s_ite, s_for, thenS_next, thenS_ret, fin_ret, fin_next, ob_some, obl_bl, bnd_if, lft_if, unl, bnd_ok, bnd_no, lft_some, lft_none, truth, cmpop, D_non, D_bl, D_int, D_str, D_tup, D_lst, P_non, P_bl, P_int, P_str, P_tup, P_lst, P_nil, P_cons, eqM_d, isIn_t, isIn_l, PV.eqv, item, vw, atI, callB, asg, in2, h1, h2, partsV]
    · have h3 : ¬ (s = [98, 111, 116, 104]) ∧ ¬ (s = [116, 104, 101, 110]) := by simpa using h1
      by_cases h2 : s = [105, 102]
      · subst h2
        simp [go, b9, x_k, x_loc, x_glo, x_bin, x_neg, x_not, x_and, x_or, x_cmp, x_cmp2, x_ite, x_nil, x_cons, x_tup, x_lst, x_ix, x_sl, x_call, x_bf, x_isi, x_rng, x_zip, x_comp, x_dget, s_skip, s_seq, s_ex, s_ret, s_asg, s_par, s_ite, s_for, thenS_next, thenS_ret, fin_ret, fin_next, ob_some, obl_bl, bnd_if, lft_if, unl, bnd_ok, bnd_no, lft_some, lft_none, truth, cmpop, D_non, D_bl, D_int, D_str, D_tup, D_lst, P_non, P_bl, P_int, P_str, P_tup, P_lst, P_nil, P_cons, eqM_d, isIn_t, isIn_l, PV.eqv, item, vw, atI, callB, asg, in2, partsV]
      · by_cases h4 : s = [97, 116]
        · subst h4
          simp [go, b9, x_k, x_loc, x_glo, x_bin, x_neg, x_not, x_and, x_or, x_cmp, x_cmp2, x_ite, x_nil, x_cons, x_tup, x_lst, x_ix, x_sl, x_call, x_bf, x_isi, x_rng, x_zip, x_comp, x_dget, s_skip, s_seq, s_ex, s_ret, s_asg, s_par, s_ite, s_for, thenS_next, thenS_ret, fin_ret, fin_next, ob_some, obl_bl, bnd_if, lft_if, unl, bnd_ok, bnd_no, lft_some, lft_none, truth, cmpop, D_non, D_bl, D_int, D_str, D_tup, D_lst, P_non, P_bl, P_int, P_str, P_tup, P_lst, P_nil, P_cons, eqM_d, isIn_t, isIn_l, PV.eqv, item, vw, atI, callB, asg, in2, partsV]
        · simp [go, b9, x_k, x_loc, x_glo, x_bin, x_neg, x_not, x_and, x_or, x_cmp, x_cmp2, x_ite, x_nil, x_cons, x_tup, x_lst, x_ix, x_sl, x_call, x_bf, x_isi, x_rng, x_zip, x_comp, x_dget, s_skip, s_seq, s_ex, s_ret, s_asg, s_par, s_ite, s_for, thenS_next, thenS_ret, fin_ret, fin_next, ob_some, obl_bl, bnd_if, lft_if, unl, bnd_ok, bnd_no, lft_some, lft_none, truth, cmpop, D_non, D_bl, D_int, D_str, D_tup, D_lst, P_non, P_bl, P_int, P_str, P_tup, P_lst, P_nil, P_cons, eqM_d, isIn_t, isIn_l, PV.eqv, item, vw, atI, callB, asg, in2, h3, h2, h4, partsV]
  · rename_i s a
    by_cases h1 : s = [98, 111, 116, 104] ∨ s = [116, 104, 101, 110]
    · have h2 : ¬ (s = [105, 102]) ∧ ¬ (s = [97, 116]) := by rcases h1 with rfl | rfl <;> decide
      simp [go, b9, x_k, x_loc, x_glo, x_bin, x_neg, x_not, x_and, x_or, x_cmp, x_cmp2, x_ite, x_nil, x_cons, x_tup, x_lst, x_ix, x_sl, x_call, x_bf, x_isi, x_rng, x_zip, x_comp, x_dget, s_skip, s_seq, s_ex, s_ret, s_asg, s_par, s_ite, s_for, thenS_next, thenS_ret, fin_ret, fin_next, ob_some, obl_bl, bnd_if, lft_if, unl, bnd_ok, bnd_no, lft_some, lft_none, truth, cmpop, D_non, D_bl, D_int, D_str, D_tup, D_lst, P_non, P_bl, P_int, P_str, P_tup, P_lst, P_nil, P_cons, eqM_d, isIn_t, isIn_l, PV.eqv, item, vw, atI, callB, asg, in2, h1, h2, partsV]
    · have h3 : ¬ (s = [98, 111, 116, 104]) ∧ ¬ (s = [116, 104, 101, 110]) := by simpa using h1
      by_cases h2 : s = [105, 102]
      · subst h2
        simp [go, b9, x_k, x_loc, x_glo, x_bin, x_neg, x_not, x_and, x_or, x_cmp, x_cmp2, x_ite, x_nil, x_cons, x_tup, x_lst, x_ix, x_sl, x_call, x_bf, x_isi, x_rng, x_zip, x_comp, x_dget, s_skip, s_seq, s_ex, s_ret, s_asg, s_par, s_ite, s_for, thenS_next, thenS_ret, fin_ret, fin_next, ob_some, obl_bl, bnd_if, lft_if, unl, bnd_ok, bnd_no, lft_some, lft_none, truth, cmpop, D_non, D_bl, D_int, D_str, D_tup, D_lst, P_non, P_bl, P_int, P_str, P_tup, P_lst, P_nil, P_cons, eqM_d, isIn_t, isIn_l, PV.eqv, item, vw, atI, callB, asg, in2, partsV]
      · by_cases h4 : s = [97, 116]
        · subst h4
          simp [go, b9, x_k, x_loc, x_glo, x_bin, x_neg, x_not, x_and, x_or, x_cmp, x_cmp2, x_ite, x_nil, x_cons, x_tup, x_lst, x_ix, x_sl, x_call, x_bf, x_isi, x_rng, x_zip, x_comp, x_dget, s_skip, s_seq, s_ex, s_ret, s_asg, s_par, s_ite, s_for, thenS_next, thenS_ret, fin_ret, fin_next, ob_some, obl_bl, bnd_if, lft_if, unl, bnd_ok, bnd_no, lft_some, lft_none, truth, cmpop, D_non, D_bl, D_int, D_str, D_tup, D_lst, P_non, P_bl, P_int, P_str, P_tup, P_lst, P_nil, P_cons, eqM_d, isIn_t, isIn_l, PV.eqv, item, vw, atI, callB, asg, in2, partsV]
        · simp [go, b9, x_k, x_loc, x_glo, x_bin, x_neg, x_not, x_and, x_or, x_cmp, x_cmp2, x_ite, x_nil, x_cons, x_tup, x_lst, x_ix, x_sl, x_call, x_bf, x_isi, x_rng, x_zip, x_comp, x_dget, s_skip, s_seq, s_ex, s_ret, s_asg, s_par, s_ite, s_for, thenS_next, thenS_ret, fin_ret, fin_next, ob_some, obl_bl, bnd_if, lft_if, unl, bnd_ok, bnd_no, lft_some, lft_none, truth, cmpop, D_non, D_bl, D_int, D_str, D_tup, D_lst, P_non, P_bl, P_int, P_str, P_tup, P_lst, P_nil, P_cons, eqM_d, isIn_t, isIn_l, PV.eqv, item, vw, atI, callB, asg, in2, h3, h2, h4, partsV]
  · rename_i s a b
    simp [F_non, F_bl, F_int, F_str, F_tup, F_lst, F_cell, F_fn, F_nil, F_cons] at hv
    have w := are_switches (n := n) (v := a) (m := m) hv.1
    by_cases h1 : s = [98, 111, 116, 104] ∨ s = [116, 104, 101, 110]
    · have h2 : ¬ (s = [105, 102]) ∧ ¬ (s = [97, 116]) := by rcases h1 with rfl | rfl <;> decide
      simp [go, b9, x_k, x_loc, x_glo, x_bin, x_neg, x_not, x_and, x_or, x_cmp, x_cmp2, x_ite, x_nil, x_cons, x_tup, x_lst, x_ix, x_sl, x_call, x_bf, x_isi, x_rng, x_zip, x_comp, x_dget, s_skip, s_seq, s_ex, s_ret, s_asg, s_par, s_ite, s_for, thenS_next, thenS_ret, fin_ret, fin_next, ob_some, obl_bl, bnd_if, lft_if, unl, bnd_ok, bnd_no, lft_some, lft_none, truth, cmpop, D_non, D_bl, D_int, D_str, D_tup, D_lst, P_non, P_bl, P_int, P_str, P_tup, P_lst, P_nil, P_cons, eqM_d, isIn_t, isIn_l, PV.eqv, item, vw, atI, callB, asg, in2, h1, h2, partsV, slice, optI, small, cut, bound]
    · have h3 : ¬ (s = [98, 111, 116, 104]) ∧ ¬ (s = [116, 104, 101, 110]) := by simpa using h1
      by_cases h2 : s = [105, 102]
      · subst h2
        simp [go, b9, x_k, x_loc, x_glo, x_bin, x_neg, x_not, x_and, x_or, x_cmp, x_cmp2, x_ite, x_nil, x_cons, x_tup, x_lst, x_ix, x_sl, x_call, x_bf, x_isi, x_rng, x_zip, x_comp, x_dget, s_skip, s_seq, s_ex, s_ret, s_asg, s_par, s_ite, s_for, thenS_next, thenS_ret, fin_ret, fin_next, ob_some, obl_bl, bnd_if, lft_if, unl, bnd_ok, bnd_no, lft_some, lft_none, truth, cmpop, D_non, D_bl, D_int, D_str, D_tup, D_lst, P_non, P_bl, P_int, P_str, P_tup, P_lst, P_nil, P_cons, eqM_d, isIn_t, isIn_l, PV.eqv, item, vw, atI, callB, asg, in2, partsV]
      · by_cases h4 : s = [97, 116]
        · subst h4
          cases e : swB a <;> simp [go, b9, x_k, x_loc, x_glo, x_bin, x_neg, x_not, x_and, x_or, x_cmp, x_cmp2, x_ite, x_nil, x_cons, x_tup, x_lst, x_ix, x_sl, x_call, x_bf, x_isi, x_rng, x_zip, x_comp, x_dget, s_skip, s_seq, s_ex, s_ret, s_asg, s_par, s_ite, s_for, thenS_next, thenS_ret, fin_ret, fin_next, ob_some, obl_bl, bnd_if, lft_if, unl, bnd_ok, bnd_no, lft_some, lft_none, truth, cmpop, D_non, D_bl, D_int, D_str, D_tup, D_lst, P_non, P_bl, P_int, P_str, P_tup, P_lst, P_nil, P_cons, eqM_d, isIn_t, isIn_l, PV.eqv, item, vw, atI, callB, asg, in2, partsV, w, e, slice, optI, small, cut, bound]
        · simp [go, b9, x_k, x_loc, x_glo, x_bin, x_neg, x_not, x_and, x_or, x_cmp, x_cmp2, x_ite, x_nil, x_cons, x_tup, x_lst, x_ix, x_sl, x_call, x_bf, x_isi, x_rng, x_zip, x_comp, x_dget, s_skip, s_seq, s_ex, s_ret, s_asg, s_par, s_ite, s_for, thenS_next, thenS_ret, fin_ret, fin_next, ob_some, obl_bl, bnd_if, lft_if, unl, bnd_ok, bnd_no, lft_some, lft_none, truth, cmpop, D_non, D_bl, D_int, D_str, D_tup, D_lst, P_non, P_bl, P_int, P_str, P_tup, P_lst, P_nil, P_cons, eqM_d, isIn_t, isIn_l, PV.eqv, item, vw, atI, callB, asg, in2, h3, h2, h4, partsV]
  · rename_i s a b c
    by_cases h1 : s = [98, 111, 116, 104] ∨ s = [116, 104, 101, 110]
    · have h2 : ¬ (s = [105, 102]) ∧ ¬ (s = [97, 116]) := by rcases h1 with rfl | rfl <;> decide
      simp [go, b9, x_k, x_loc, x_glo, x_bin, x_neg, x_not, x_and, x_or, x_cmp, x_cmp2, x_ite, x_nil, x_cons, x_tup, x_lst, x_ix, x_sl, x_call, x_bf, x_isi, x_rng, x_zip, x_comp, x_dget, s_skip, s_seq, s_ex, s_ret, s_asg, s_par, s_ite, s_for, thenS_next, thenS_ret, fin_ret, fin_next, ob_some, obl_bl, bnd_if, lft_if, unl, bnd_ok, bnd_no, lft_some, lft_none, truth, cmpop, D_non, D_bl, D_int, D_str, D_tup, D_lst, P_non, P_bl, P_int, P_str, P_tup, P_lst, P_nil, P_cons, eqM_d, isIn_t, isIn_l, PV.eqv, item, vw, atI, callB, asg, in2, h1, h2, partsV]
    · have h3 : ¬ (s = [98, 111, 116, 104]) ∧ ¬ (s = [116, 104, 101, 110]) := by simpa using h1
      by_cases h2 : s = [105, 102]
      · subst h2
        simp [go, b9, x_k, x_loc, x_glo, x_bin, x_neg, x_not, x_and, x_or, x_cmp, x_cmp2, x_ite, x_nil, x_cons, x_tup, x_lst, x_ix, x_sl, x_call, x_bf, x_isi, x_rng, x_zip, x_comp, x_dget, s_skip, s_seq, s_ex, s_ret, s_asg, s_par, s_ite, s_for, thenS_next, thenS_ret, fin_ret, fin_next, ob_some, obl_bl, bnd_if, lft_if, unl, bnd_ok, bnd_no, lft_some, lft_none, truth, cmpop, D_non, D_bl, D_int, D_str, D_tup, D_lst, P_non, P_bl, P_int, P_str, P_tup, P_lst, P_nil, P_cons, eqM_d, isIn_t, isIn_l, PV.eqv, item, vw, atI, callB, asg, in2, partsV, slice, optI, small, cut, bound]
      · by_cases h4 : s = [97, 116]
        · subst h4
          simp [go, b9, x_k, x_loc, x_glo, x_bin, x_neg, x_not, x_and, x_or, x_cmp, x_cmp2, x_ite, x_nil, x_cons, x_tup, x_lst, x_ix, x_sl, x_call, x_bf, x_isi, x_rng, x_zip, x_comp, x_dget, s_skip, s_seq, s_ex, s_ret, s_asg, s_par, s_ite, s_for, thenS_next, thenS_ret, fin_ret, fin_next, ob_some, obl_bl, bnd_if, lft_if, unl, bnd_ok, bnd_no, lft_some, lft_none, truth, cmpop, D_non, D_bl, D_int, D_str, D_tup, D_lst, P_non, P_bl, P_int, P_str, P_tup, P_lst, P_nil, P_cons, eqM_d, isIn_t, isIn_l, PV.eqv, item, vw, atI, callB, asg, in2, partsV]
        · simp [go, b9, x_k, x_loc, x_glo, x_bin, x_neg, x_not, x_and, x_or, x_cmp, x_cmp2, x_ite, x_nil, x_cons, x_tup, x_lst, x_ix, x_sl, x_call, x_bf, x_isi, x_rng, x_zip, x_comp, x_dget, s_skip, s_seq, s_ex, s_ret, s_asg, s_par, s_ite, s_for, thenS_next, thenS_ret, fin_ret, fin_next, ob_some, obl_bl, bnd_if, lft_if, unl, bnd_ok, bnd_no, lft_some, lft_none, truth, cmpop, D_non, D_bl, D_int, D_str, D_tup, D_lst, P_non, P_bl, P_int, P_str, P_tup, P_lst, P_nil, P_cons, eqM_d, isIn_t, isIn_l, PV.eqv, item, vw, atI, callB, asg, in2, h3, h2, h4, partsV]
  · cases hh
def seq2 (f : PV → Int → Int) (a b : PV) (r : Int) : Int := if 0 ≤ (if 0 ≤ r then f a r else -1) then f b (if 0 ≤ r then f a r else -1) else -1
def pl : Nat → PV → Int → Int
  | 0, _, _ => -1
  | h + 1, .tup [.str s], m => if m = 0 then -1 else if s = [100, 114, 111, 112] ∨ s = [112, 97, 115, 115] then m - 1 else -1
  | h + 1, .tup [.str s, a], m => if m = 0 then -1 else if s = [111, 117, 116] ∧ isW a 0 3 = true then m - 1 else -1
  | h + 1, .tup [.str s, a, b], m => if m = 0 then -1 else if s = [115, 101, 116] ∧ isF a = true ∧ isW b 0 3 = true then m - 1 else if s = [98, 111, 116, 104] ∨ s = [116, 104, 101, 110] then seq2 (pl h) a b (m - 1) else if s = [97, 116] ∧ swB a = true then (if 0 ≤ m - 1 then pl h b (m - 1) else -1) else -1
  | h + 1, .tup [.str s, a, b, c], m => if m = 0 then -1 else if s = [105, 102] then seq2 (pl h) b c (tl h a (m - 1)) else -1
  | _ + 1, _, _ => -1
theorem pl_zero (h : Nat) (v : PV) : pl h v 0 = -1 := by
  cases h with
  | zero => rfl
  | succ h => unfold pl; split <;> simp
theorem pl_hdd {h : Nat} {v : PV} {m : Int} (e : hdd v = false) : pl (h + 1) v m = -1 := by
  unfold pl
  split <;> first | (simp [hdd] at e; done) | rfl
theorem policy_left : ∀ (h n : Nat) (v : PV) (m : Int) (mem : Mem), v.flat = true → run prg (n + h + 4) 10 [v, .int h, .int m] mem = .ok (.int (pl h v m)) mem := by
  intro h
  induction h with
  | zero =>
    intro n v m mem hv
    rw [show n + 0 + 4 = (n + 3) + 1 from rfl, r10]
    simp [go, b10, x_k, x_loc, x_glo, x_bin, x_neg, x_not, x_and, x_or, x_cmp, x_cmp2, x_ite, x_nil, x_cons, x_tup, x_lst, x_ix, x_sl, x_call, x_bf, x_isi, x_rng, x_zip, x_comp, x_dget, s_skip, s_seq, s_ex, s_ret, s_asg, s_par, s_ite, s_for, thenS_next, thenS_ret, fin_ret, fin_next, ob_some, obl_bl, bnd_if, lft_if, unl, bnd_ok, bnd_no, lft_some, lft_none, truth, cmpop, D_non, D_bl, D_int, D_str, D_tup, D_lst, P_non, P_bl, P_int, P_str, P_tup, P_lst, P_nil, P_cons, eqM_d, isIn_t, isIn_l, PV.eqv, pl]
  | succ h ih =>
    intro n v m mem hv
    rw [show n + (h + 1) + 4 = (n + h + 4) + 1 from by omega, r10]
    have e2 : ((h : Int) + 1 = 0) = False := by simp; omega
    have hh := is_headed (n := n + h + 2) (m := mem) hv
    by_cases hm : m = 0
    · subst hm
      simp [go, b10, x_k, x_loc, x_glo, x_bin, x_neg, x_not, x_and, x_or, x_cmp, x_cmp2, x_ite, x_nil, x_cons, x_tup, x_lst, x_ix, x_sl, x_call, x_bf, x_isi, x_rng, x_zip, x_comp, x_dget, s_skip, s_seq, s_ex, s_ret, s_asg, s_par, s_ite, s_for, thenS_next, thenS_ret, fin_ret, fin_next, ob_some, obl_bl, bnd_if, lft_if, unl, bnd_ok, bnd_no, lft_some, lft_none, truth, cmpop, D_non, D_bl, D_int, D_str, D_tup, D_lst, P_non, P_bl, P_int, P_str, P_tup, P_lst, P_nil, P_cons, eqM_d, isIn_t, isIn_l, PV.eqv, pl_zero, e2]
    · cases e : hdd v with
      | false =>
        rw [e] at hh
        rw [pl_hdd e]
        simp [go, b10, x_k, x_loc, x_glo, x_bin, x_neg, x_not, x_and, x_or, x_cmp, x_cmp2, x_ite, x_nil, x_cons, x_tup, x_lst, x_ix, x_sl, x_call, x_bf, x_isi, x_rng, x_zip, x_comp, x_dget, s_skip, s_seq, s_ex, s_ret, s_asg, s_par, s_ite, s_for, thenS_next, thenS_ret, fin_ret, fin_next, ob_some, obl_bl, bnd_if, lft_if, unl, bnd_ok, bnd_no, lft_some, lft_none, truth, cmpop, D_non, D_bl, D_int, D_str, D_tup, D_lst, P_non, P_bl, P_int, P_str, P_tup, P_lst, P_nil, P_cons, eqM_d, isIn_t, isIn_l, PV.eqv, e2, hm, hh]
      | true =>
        rw [e] at hh
        have lf := is_leaf (n := n + h + 2) (m := mem) hv e
        have pt := parts_in (n := n + h + 1) (m := mem) hv e
        unfold hdd at e
        split at e
        · rename_i s
          by_cases h1 : s = [100, 114, 111, 112] ∨ s = [112, 97, 115, 115]
          · simp [go, b10, x_k, x_loc, x_glo, x_bin, x_neg, x_not, x_and, x_or, x_cmp, x_cmp2, x_ite, x_nil, x_cons, x_tup, x_lst, x_ix, x_sl, x_call, x_bf, x_isi, x_rng, x_zip, x_comp, x_dget, s_skip, s_seq, s_ex, s_ret, s_asg, s_par, s_ite, s_for, thenS_next, thenS_ret, fin_ret, fin_next, ob_some, obl_bl, bnd_if, lft_if, unl, bnd_ok, bnd_no, lft_some, lft_none, truth, cmpop, D_non, D_bl, D_int, D_str, D_tup, D_lst, P_non, P_bl, P_int, P_str, P_tup, P_lst, P_nil, P_cons, eqM_d, isIn_t, isIn_l, PV.eqv, e2, hm, hh, asg, lf, leafB, h1, binop, vw, arith, pl]
          · simp [go, b10, x_k, x_loc, x_glo, x_bin, x_neg, x_not, x_and, x_or, x_cmp, x_cmp2, x_ite, x_nil, x_cons, x_tup, x_lst, x_ix, x_sl, x_call, x_bf, x_isi, x_rng, x_zip, x_comp, x_dget, s_skip, s_seq, s_ex, s_ret, s_asg, s_par, s_ite, s_for, thenS_next, thenS_ret, fin_ret, fin_next, ob_some, obl_bl, bnd_if, lft_if, unl, bnd_ok, bnd_no, lft_some, lft_none, truth, cmpop, D_non, D_bl, D_int, D_str, D_tup, D_lst, P_non, P_bl, P_int, P_str, P_tup, P_lst, P_nil, P_cons, eqM_d, isIn_t, isIn_l, PV.eqv, e2, hm, hh, asg, lf, leafB, h1, binop, vw, arith, pl, pt, partsV, isSame]
        · rename_i s a
          by_cases h1 : s = [111, 117, 116] ∧ isW a 0 3 = true
          · obtain ⟨rfl, h1⟩ := h1
            simp [go, b10, x_k, x_loc, x_glo, x_bin, x_neg, x_not, x_and, x_or, x_cmp, x_cmp2, x_ite, x_nil, x_cons, x_tup, x_lst, x_ix, x_sl, x_call, x_bf, x_isi, x_rng, x_zip, x_comp, x_dget, s_skip, s_seq, s_ex, s_ret, s_asg, s_par, s_ite, s_for, thenS_next, thenS_ret, fin_ret, fin_next, ob_some, obl_bl, bnd_if, lft_if, unl, bnd_ok, bnd_no, lft_some, lft_none, truth, cmpop, D_non, D_bl, D_int, D_str, D_tup, D_lst, P_non, P_bl, P_int, P_str, P_tup, P_lst, P_nil, P_cons, eqM_d, isIn_t, isIn_l, PV.eqv, e2, hm, hh, asg, lf, leafB, h1, binop, vw, arith, pl]
          · have h2 : (decide (s = [111, 117, 116]) && isW a 0 3) = false := by
              by_cases h3 : s = [111, 117, 116]
              · cases h4 : isW a 0 3 with
                | true => exact absurd ⟨h3, h4⟩ h1
                | false => simp
              · simp [h3]
            simp only [leafB, h2] at lf
            simp [go, b10, x_k, x_loc, x_glo, x_bin, x_neg, x_not, x_and, x_or, x_cmp, x_cmp2, x_ite, x_nil, x_cons, x_tup, x_lst, x_ix, x_sl, x_call, x_bf, x_isi, x_rng, x_zip, x_comp, x_dget, s_skip, s_seq, s_ex, s_ret, s_asg, s_par, s_ite, s_for, thenS_next, thenS_ret, fin_ret, fin_next, ob_some, obl_bl, bnd_if, lft_if, unl, bnd_ok, bnd_no, lft_some, lft_none, truth, cmpop, D_non, D_bl, D_int, D_str, D_tup, D_lst, P_non, P_bl, P_int, P_str, P_tup, P_lst, P_nil, P_cons, eqM_d, isIn_t, isIn_l, PV.eqv, e2, hm, hh, asg, lf, binop, vw, arith, pl, pt, partsV, isSame]
            intro z1 z2
            exact absurd ⟨z1, z2⟩ h1
        · rename_i s a b
          simp [F_non, F_bl, F_int, F_str, F_tup, F_lst, F_cell, F_fn, F_nil, F_cons] at hv
          have rc := fun k => ih n a k mem hv.1
          have rd := fun k => ih n b k mem hv.2
          by_cases h1 : s = [115, 101, 116] ∧ isF a = true ∧ isW b 0 3 = true
          · obtain ⟨rfl, h1, h7⟩ := h1
            simp [go, b10, x_k, x_loc, x_glo, x_bin, x_neg, x_not, x_and, x_or, x_cmp, x_cmp2, x_ite, x_nil, x_cons, x_tup, x_lst, x_ix, x_sl, x_call, x_bf, x_isi, x_rng, x_zip, x_comp, x_dget, s_skip, s_seq, s_ex, s_ret, s_asg, s_par, s_ite, s_for, thenS_next, thenS_ret, fin_ret, fin_next, ob_some, obl_bl, bnd_if, lft_if, unl, bnd_ok, bnd_no, lft_some, lft_none, truth, cmpop, D_non, D_bl, D_int, D_str, D_tup, D_lst, P_non, P_bl, P_int, P_str, P_tup, P_lst, P_nil, P_cons, eqM_d, isIn_t, isIn_l, PV.eqv, e2, hm, hh, asg, lf, leafB, h1, h7, binop, vw, arith, pl]
          · have h2 : (decide (s = [115, 101, 116]) && isF a && isW b 0 3) = false := by
              cases q : (decide (s = [115, 101, 116]) && isF a && isW b 0 3) with
              | false => rfl
              | true =>
                simp at q
                exact absurd ⟨q.1.1, q.1.2, q.2⟩ h1
            simp only [leafB, h2] at lf
            by_cases h3 : s = [98, 111, 116, 104] ∨ s = [116, 104, 101, 110]
            · have h4 : ¬ (s = [105, 102]) := by rcases h3 with rfl | rfl <;> decide
              simp [go, b10, x_k, x_loc, x_glo, x_bin, x_neg, x_not, x_and, x_or, x_cmp, x_cmp2, x_ite, x_nil, x_cons, x_tup, x_lst, x_ix, x_sl, x_call, x_bf, x_isi, x_rng, x_zip, x_comp, x_dget, s_skip, s_seq, s_ex, s_ret, s_asg, s_par, s_ite, s_for, thenS_next, thenS_ret, fin_ret, fin_next, ob_some, obl_bl, bnd_if, lft_if, unl, bnd_ok, bnd_no, lft_some, lft_none, truth, cmpop, D_non, D_bl, D_int, D_str, D_tup, D_lst, P_non, P_bl, P_int, P_str, P_tup, P_lst, P_nil, P_cons, eqM_d, isIn_t, isIn_l, PV.eqv, e2, hm, hh, asg, lf, binop, vw, arith, pt, partsV, isSame, h3, item, atI, h4, forL, forB_eq, rc, rd]
              have e3 : pl (h + 1) (.tup [.str s, a, b]) m = seq2 (pl h) a b (m - 1) := by
                unfold pl
                rw [if_neg hm, if_neg h1, if_pos h3]
              rw [e3]
              unfold seq2
              by_cases h5 : 1 ≤ m
              · by_cases h6 : 0 ≤ pl h a (m - 1) <;> simp [h5, h6]
              · simp [h5]
            · by_cases h5 : s = [97, 116] ∧ swB a = true
              · obtain ⟨rfl, h6⟩ := h5
                simp [go, b10, x_k, x_loc, x_glo, x_bin, x_neg, x_not, x_and, x_or, x_cmp, x_cmp2, x_ite, x_nil, x_cons, x_tup, x_lst, x_ix, x_sl, x_call, x_bf, x_isi, x_rng, x_zip, x_comp, x_dget, s_skip, s_seq, s_ex, s_ret, s_asg, s_par, s_ite, s_for, thenS_next, thenS_ret, fin_ret, fin_next, ob_some, obl_bl, bnd_if, lft_if, unl, bnd_ok, bnd_no, lft_some, lft_none, truth, cmpop, D_non, D_bl, D_int, D_str, D_tup, D_lst, P_non, P_bl, P_int, P_str, P_tup, P_lst, P_nil, P_cons, eqM_d, isIn_t, isIn_l, PV.eqv, e2, hm, hh, asg, lf, binop, vw, arith, pt, partsV, isSame, item, atI, forL, forB_eq, rd, h6, pl]
                split <;> rfl
              · have e3 : pl (h + 1) (.tup [.str s, a, b]) m = -1 := by
                  unfold pl
                  rw [if_neg hm, if_neg h1, if_neg h3, if_neg h5]
                have e4 : partsV (.tup [.str s, a, b]) = .non := by
                  show (if s = [98, 111, 116, 104] ∨ s = [116, 104, 101, 110] then PV.tup [a, b] else if s = [97, 116] ∧ swB a = true then PV.tup [b] else PV.non) = PV.non
                  rw [if_neg h3, if_neg h5]
                rw [e4] at pt
                rw [e3]
                simp [go, b10, x_k, x_loc, x_glo, x_bin, x_neg, x_not, x_and, x_or, x_cmp, x_cmp2, x_ite, x_nil, x_cons, x_tup, x_lst, x_ix, x_sl, x_call, x_bf, x_isi, x_rng, x_zip, x_comp, x_dget, s_skip, s_seq, s_ex, s_ret, s_asg, s_par, s_ite, s_for, thenS_next, thenS_ret, fin_ret, fin_next, ob_some, obl_bl, bnd_if, lft_if, unl, bnd_ok, bnd_no, lft_some, lft_none, truth, cmpop, D_non, D_bl, D_int, D_str, D_tup, D_lst, P_non, P_bl, P_int, P_str, P_tup, P_lst, P_nil, P_cons, eqM_d, isIn_t, isIn_l, PV.eqv, e2, hm, hh, asg, lf, binop, vw, arith, pt, isSame]
        · rename_i s a b c
          simp [F_non, F_bl, F_int, F_str, F_tup, F_lst, F_cell, F_fn, F_nil, F_cons] at hv
          have rc := fun k => ih n b k mem hv.2.1
          have rd := fun k => ih n c k mem hv.2.2
          have rt := fun k => test_left h (n + 1) a k mem hv.1
          simp only [show n + 1 + h + 3 = n + h + 4 from by omega] at rt
          by_cases h3 : s = [105, 102]
          · subst h3
            simp [go, b10, x_k, x_loc, x_glo, x_bin, x_neg, x_not, x_and, x_or, x_cmp, x_cmp2, x_ite, x_nil, x_cons, x_tup, x_lst, x_ix, x_sl, x_call, x_bf, x_isi, x_rng, x_zip, x_comp, x_dget, s_skip, s_seq, s_ex, s_ret, s_asg, s_par, s_ite, s_for, thenS_next, thenS_ret, fin_ret, fin_next, ob_some, obl_bl, bnd_if, lft_if, unl, bnd_ok, bnd_no, lft_some, lft_none, truth, cmpop, D_non, D_bl, D_int, D_str, D_tup, D_lst, P_non, P_bl, P_int, P_str, P_tup, P_lst, P_nil, P_cons, eqM_d, isIn_t, isIn_l, PV.eqv, e2, hm, hh, asg, lf, leafB, binop, vw, arith, pt, partsV, isSame, item, atI, forL, forB_eq, rc, rd, rt]
            have e3 : pl (h + 1) (.tup [.str [105, 102], a, b, c]) m = seq2 (pl h) b c (tl h a (m - 1)) := by
              unfold pl
              rw [if_neg hm, if_pos rfl]
            rw [e3]
            unfold seq2
            by_cases h5 : 0 ≤ tl h a (m - 1)
            · by_cases h6 : 0 ≤ pl h b (tl h a (m - 1)) <;> simp [h5, h6]
            · simp [h5]
          · simp [go, b10, x_k, x_loc, x_glo, x_bin, x_neg, x_not, x_and, x_or, x_cmp, x_cmp2, x_ite, x_nil, x_cons, x_tup, x_lst, x_ix, x_sl, x_call, x_bf, x_isi, x_rng, x_zip, x_comp, x_dget, s_skip, s_seq, s_ex, s_ret, s_asg, s_par, s_ite, s_for, thenS_next, thenS_ret, fin_ret, fin_next, ob_some, obl_bl, bnd_if, lft_if, unl, bnd_ok, bnd_no, lft_some, lft_none, truth, cmpop, D_non, D_bl, D_int, D_str, D_tup, D_lst, P_non, P_bl, P_int, P_str, P_tup, P_lst, P_nil, P_cons, eqM_d, isIn_t, isIn_l, PV.eqv, e2, hm, hh, asg, lf, leafB, binop, vw, arith, pt, partsV, isSame, h3, pl]
        · cases e
end P00
set_option maxHeartbeats 4000000
namespace P00
open Pv
theorem r23 (n : Nat) (a : PV) (m : Mem) : run prg (n + 1) 23 [a] m = go b23 1 3 n [a] m := rfl
mutual
def wid : PV → Nat
  | .tup l => max l.length (widAll l)
  | .lst l => max l.length (widAll l)
  | _ => 0
def widAll : List PV → Nat
  | [] => 0
  | x :: l => max (wid x) (widAll l)
end
theorem W_tup (l : List PV) : wid (.tup l) = max l.length (widAll l) := by simp [wid]
theorem W_nil : widAll [] = 0 := by simp [widAll]
theorem W_cons (x : PV) (l : List PV) : widAll (x :: l) = max (wid x) (widAll l) := by simp [widAll]
/-! ### sorted -/
theorem sort_asc : ∀ (is : List Int), ascI is = true → sortU is = is
  | [], _ => rfl
  | [a], _ => rfl
  | a :: b :: r, h => by
    simp only [ascI, Bool.and_eq_true, decide_eq_true_eq] at h
    have e := sort_asc (b :: r) h.2
    show insU a (sortU (b :: r)) = _
    rw [e]
    show (if a < b then a :: b :: r else if a = b then b :: r else b :: insU a r) = _
    rw [if_pos h.1]
theorem ins_len (x : Int) : ∀ (l : List Int), (insU x l).length ≤ l.length + 1
  | [] => by simp [insU]
  | y :: l => by
    unfold insU
    split
    · simp
    · split
      · simp
      · have := ins_len x l
        simp; omega
theorem ins_asc (x : Int) : ∀ (l : List Int), ascI l = true → ascI (insU x l) = true
  | [], _ => rfl
  | [y], _ => by
    unfold insU
    split
    · rename_i h; simp [ascI, h]
    · split
      · rfl
      · simp [insU, ascI]; omega
  | y :: z :: l, h => by
    simp only [ascI, Bool.and_eq_true, decide_eq_true_eq] at h
    unfold insU
    split
    · rename_i hx; simp [ascI, h, hx]
    · split
      · simp [ascI, h]
      · have ih := ins_asc x (z :: l) h.2
        unfold insU at ih ⊢
        split
        · rename_i h1 h2 h3
          rw [if_pos h3] at ih
          simp [ascI, ih] at *
          exact ⟨by omega, ih.1, ih.2⟩
        · split
          · simp [ascI, h]
          · rename_i h1 h2 h3 h4
            rw [if_neg h3, if_neg h4] at ih
            have g : ascI (y :: z :: insU x l) = (decide (y < z) && ascI (z :: insU x l)) := rfl
            rw [g, ih]
            simp [h.1]
theorem sort_is (is : List Int) : ascI (sortU is) = true := by
  induction is with
  | nil => rfl
  | cons x l ih => exact ins_asc x _ ih
theorem sort_eq (is : List Int) : decide (is = sortU is) = ascI is := by
  cases h : ascI is with
  | true => rw [sort_asc is h]; simp
  | false =>
    apply decide_eq_false
    intro e
    have := sort_is is
    rw [← e, h] at this
    cases this
theorem asc_le : ∀ (is : List Int), ascI is = true → (∀ i ∈ is, 0 ≤ i ∧ i ≤ 3) → is.length ≤ 4
  | [], _, _ => by simp
  | [_], _, _ => by simp
  | [_, _], _, _ => by simp
  | [_, _, _], _, _ => by simp
  | [_, _, _, _], _, _ => by simp
  | a :: b :: c :: d :: e :: r, h, hb => by
    simp only [ascI, Bool.and_eq_true, decide_eq_true_eq] at h
    have h1 := hb a (by simp)
    have h2 := hb e (by simp)
    omega
theorem ints_in : ∀ {l : List PV} {is : List Int}, ints? l = some is → ∀ i ∈ is, 0 ≤ i ∧ i ≤ 3
  | [], is, h => by cases h; intro i hi; simp at hi
  | x :: l, is, h => by
    cases x <;> simp [ints?] at h
    obtain ⟨h0, js, h1, rfl⟩ := h
    intro i hi
    rcases List.mem_cons.mp hi with rfl | hi
    · exact h0
    · exact ints_in h1 i hi
theorem intsOf_map : ∀ is : List Int, intsOf (is.map .int) = some is
  | [] => rfl
  | i :: is => by simp [intsOf, intsOf_map is]
theorem eqv_ints : ∀ (a b : List Int), eqvAll (a.map .int) (b.map .int) = decide (a = b)
  | [], [] => rfl
  | [], _ :: _ => rfl
  | _ :: _, [] => rfl
  | x :: a, y :: b => by
    simp only [List.map_cons, eqvAll, eqv_ints a b, PV.eqv]
    by_cases h : x = y <;> simp [h]
theorem sw_ints {l : List PV} {is : List Int} (h : ints? l = some is) : swB (.tup l) = (decide (is ≠ []) && decide (is = sortU is)) := by
  have e := ints_map h
  subst e
  rw [sort_eq]
  unfold swB
  simp only [h, List.length_map]
  cases h1 : ascI is with
  | false => simp
  | true =>
    have h2 := asc_le is h1 (ints_in h)
    cases is with
    | nil => simp
    | cons i is => simp at h2 ⊢; omega
def psz : Nat → PV → Option (Int × Int)
  | 0, _ => none
  | k + 1, .tup [.str s] => if s = [100, 114, 111, 112] ∨ s = [112, 97, 115, 115] then some (1, 1) else none
  | k + 1, .tup [.str s, a] => if s = [111, 117, 116] ∧ isW a 0 3 = true then some (1, 1) else none
  | k + 1, .tup [.str s, a, b] => if s = [115, 101, 116] then (if isF a = true ∧ isW b 0 3 = true then some (1, 1) else none) else if s = [116, 104, 101, 110] ∨ s = [98, 111, 116, 104] then ov2 (psz k a) (psz k b) else if s = [97, 116] ∧ swB a = true then ov1 (psz k b) else none
  | k + 1, .tup [.str s, a, b, c] => if s = [105, 102] then ov3 (tsz k a) (psz k b) (psz k c) else none
  | _ + 1, _ => none
theorem psz_no {k : Nat} {v : PV} (h : hdd v = false) : psz (k + 1) v = none := by
  unfold psz
  split <;> first | (simp [hdd] at h; done) | rfl
theorem lkP (s : List Nat) : (lkS [[116, 104, 101, 110], [98, 111, 116, 104], [105, 102], [97, 116]] [.int 3, .int 3, .int 4, .int 3] s).getD (.int 0) = .int (if s = [116, 104, 101, 110] ∨ s = [98, 111, 116, 104] ∨ s = [97, 116] then 3 else if s = [105, 102] then 4 else 0) := by
  by_cases q1 : s = [116, 104, 101, 110]
  · subst q1; simp [lkS]
  · by_cases q2 : s = [98, 111, 116, 104]
    · subst q2; simp [lkS]
    · by_cases q3 : s = [105, 102]
      · subst q3; simp [lkS]
      · by_cases q4 : s = [97, 116]
        · subst q4; simp [lkS]
        · simp [lkS, q1, q2, q3, q4, Ne.symm q1, Ne.symm q2, Ne.symm q3, Ne.symm q4]
theorem flat_mem : ∀ {l : List PV}, flatAll l = true → ∀ x ∈ l, x.flat = true
  | [], _, x, hx => by simp at hx
  | y :: l, h, x, hx => by
    simp [F_cons] at h
    rcases List.mem_cons.mp hx with rfl | hx
    · exact h.1
    · exact flat_mem h.2 x hx
theorem flat_allD {l : List PV} (h : flatAll l = true) : l.all PV.isD = true := by
  rw [List.all_eq_true]
  exact fun x hx => flat_D (flat_mem h x hx)
theorem flat_D2 {l : List PV} (h : flatAll l = true) : ∀ x ∈ l, x.isD = true := fun x hx => flat_D (flat_mem h x hx)
/-- the odd ones among them -/
theorem odd_ones {n : Nat} {l : List PV} {m : Mem} {ρ : Env} (h : flatAll l = true) : compL (cmpB con (run prg (n + 1)) ρ [1] (.v 1) (.not (.call 20 ((E.loc 1).cons ((E.k (.int 0)).cons ((E.k (.int 3)).cons E.nil))))) (.loc 1)) l m = .ok (l.filter fun x => !(isW x 0 3)) m ∨ ρ.length ≤ 1 := by
  by_cases hr : ρ.length ≤ 1
  · exact .inr hr
  · refine .inl ?_
    rw [compL_pure (g := fun x => if (!(isW x 0 3)) = true then some x else none)]
    · congr 1
      induction l with
      | nil => rfl
      | cons x l ih =>
        rw [List.filterMap_cons, List.filter_cons, ih (by simp [F_cons] at h; exact h.2)]
        cases isW x 0 3 <;> rfl
    · intro x hx
      have w := law_is_whole (n := n) (v := x) (lo := 0) (hi := 3) (m := m) (flat_D (flat_mem h x hx))
      have h1 : 1 < ρ.length := by omega
      have g : ((wipeP ρ [1]).set 1 (some x))[1]? = some (some x) := by
        simp [wipeP, h1]
      simp only [cmpB, asg]
      refine compT_if (b := !(isW x 0 3)) ?_ fun _ => ?_
      · simp [x_k, x_loc, x_glo, x_bin, x_neg, x_not, x_and, x_or, x_cmp, x_cmp2, x_ite, x_nil, x_cons, x_tup, x_lst, x_ix, x_sl, x_call, x_bf, x_isi, x_rng, x_zip, x_comp, x_dget, s_skip, s_seq, s_ex, s_ret, s_asg, s_par, s_ite, s_for, thenS_next, thenS_ret, fin_ret, fin_next, ob_some, obl_bl, bnd_if, lft_if, unl, bnd_ok, bnd_no, lft_some, lft_none, g, w, truth]
      · simp [x_k, x_loc, x_glo, x_bin, x_neg, x_not, x_and, x_or, x_cmp, x_cmp2, x_ite, x_nil, x_cons, x_tup, x_lst, x_ix, x_sl, x_call, x_bf, x_isi, x_rng, x_zip, x_comp, x_dget, s_skip, s_seq, s_ex, s_ret, s_asg, s_par, s_ite, s_for, thenS_next, thenS_ret, fin_ret, fin_next, ob_some, obl_bl, bnd_if, lft_if, unl, bnd_ok, bnd_no, lft_some, lft_none, g]
theorem filter_nil {l : List PV} : (l.filter fun x => !(isW x 0 3)) = [] ↔ (ints? l).isSome = true := by
  rw [← ints_all, List.filter_eq_nil_iff, List.all_eq_true]
  simp
theorem eqvAll_nil (l : List PV) : eqvAll l [] = l.isEmpty := by cases l <;> rfl
theorem dep_ints : ∀ is : List Int, depAll (is.map .int) = 0
  | [] => by simp [depAll]
  | i :: is => by simp [P_cons, P_int, dep_ints is]
theorem policy_size : ∀ (k n : Nat) (v : PV) (mem : Mem), v.flat = true → v.dep < k → wid v < 64 → run prg (n + k + 2) 23 [v] mem = .ok (val (psz k v)) mem := by
  intro k
  induction k with
  | zero => intro n v mem _ h; omega
  | succ k ih =>
    intro n v mem hv hd hw
    rw [show n + (k + 1) + 2 = (n + k + 2) + 1 from by omega, r23]
    cases v with
    | tup l =>
      cases l with
      | nil =>
        have e := psz_no (k := k) (v := .tup []) rfl
        simp [e, go, b23, x_k, x_loc, x_glo, x_bin, x_neg, x_not, x_and, x_or, x_cmp, x_cmp2, x_ite, x_nil, x_cons, x_tup, x_lst, x_ix, x_sl, x_call, x_bf, x_isi, x_rng, x_zip, x_comp, x_dget, s_skip, s_seq, s_ex, s_ret, s_asg, s_par, s_ite, s_for, thenS_next, thenS_ret, fin_ret, fin_next, ob_some, obl_bl, bnd_if, lft_if, unl, bnd_ok, bnd_no, lft_some, lft_none, truth, cmpop, D_non, D_bl, D_int, D_str, D_tup, D_lst, P_non, P_bl, P_int, P_str, P_tup, P_lst, P_nil, P_cons, eqM_d, isIn_t, isIn_l, PV.eqv, eqvAll, isTy, vw, callB, item, atI, anyEq, mkl, asg, val]
      | cons x l =>
        have hx := flat_cons hv
        by_cases hs : ∃ s, x = .str s
        · obtain ⟨s, rfl⟩ := hs
          rcases l with _ | ⟨a, _ | ⟨b, _ | ⟨c, _ | ⟨d, l⟩⟩⟩⟩
          · by_cases h1 : s = [100, 114, 111, 112] ∨ s = [112, 97, 115, 115]
            · rcases h1 with rfl | rfl <;> simp [go, b23, x_k, x_loc, x_glo, x_bin, x_neg, x_not, x_and, x_or, x_cmp, x_cmp2, x_ite, x_nil, x_cons, x_tup, x_lst, x_ix, x_sl, x_call, x_bf, x_isi, x_rng, x_zip, x_comp, x_dget, s_skip, s_seq, s_ex, s_ret, s_asg, s_par, s_ite, s_for, thenS_next, thenS_ret, fin_ret, fin_next, ob_some, obl_bl, bnd_if, lft_if, unl, bnd_ok, bnd_no, lft_some, lft_none, truth, cmpop, D_non, D_bl, D_int, D_str, D_tup, D_lst, P_non, P_bl, P_int, P_str, P_tup, P_lst, P_nil, P_cons, eqM_d, isIn_t, isIn_l, PV.eqv, eqvAll, isTy, vw, callB, item, atI, anyEq, mkl, asg, psz, val]
            · have h3 : ¬ (s = [100, 114, 111, 112]) ∧ ¬ (s = [112, 97, 115, 115]) := by simpa using h1
              by_cases h2 : s = [115, 101, 116]
              · subst h2
                simp [go, b23, x_k, x_loc, x_glo, x_bin, x_neg, x_not, x_and, x_or, x_cmp, x_cmp2, x_ite, x_nil, x_cons, x_tup, x_lst, x_ix, x_sl, x_call, x_bf, x_isi, x_rng, x_zip, x_comp, x_dget, s_skip, s_seq, s_ex, s_ret, s_asg, s_par, s_ite, s_for, thenS_next, thenS_ret, fin_ret, fin_next, ob_some, obl_bl, bnd_if, lft_if, unl, bnd_ok, bnd_no, lft_some, lft_none, truth, cmpop, D_non, D_bl, D_int, D_str, D_tup, D_lst, P_non, P_bl, P_int, P_str, P_tup, P_lst, P_nil, P_cons, eqM_d, isIn_t, isIn_l, PV.eqv, eqvAll, isTy, vw, callB, item, atI, anyEq, mkl, asg, psz, val]
              · have g : ¬ ((if s = [116, 104, 101, 110] ∨ s = [98, 111, 116, 104] ∨ s = [97, 116] then (3 : Int) else if s = [105, 102] then 4 else 0) = 1) := by split <;> (try split) <;> omega
                simp [go, b23, x_k, x_loc, x_glo, x_bin, x_neg, x_not, x_and, x_or, x_cmp, x_cmp2, x_ite, x_nil, x_cons, x_tup, x_lst, x_ix, x_sl, x_call, x_bf, x_isi, x_rng, x_zip, x_comp, x_dget, s_skip, s_seq, s_ex, s_ret, s_asg, s_par, s_ite, s_for, thenS_next, thenS_ret, fin_ret, fin_next, ob_some, obl_bl, bnd_if, lft_if, unl, bnd_ok, bnd_no, lft_some, lft_none, truth, cmpop, D_non, D_bl, D_int, D_str, D_tup, D_lst, P_non, P_bl, P_int, P_str, P_tup, P_lst, P_nil, P_cons, eqM_d, isIn_t, isIn_l, PV.eqv, eqvAll, isTy, vw, callB, item, atI, anyEq, mkl, asg, psz, val, h3, Ne.symm h3.1, Ne.symm h3.2, h2, lkP, g, Ne.symm g]
          · simp [F_non, F_bl, F_int, F_str, F_tup, F_lst, F_cell, F_fn, F_nil, F_cons] at hv
            have w := law_is_whole (n := n + k + 1) (v := a) (lo := 0) (hi := 3) (m := mem) (flat_D hv)
            by_cases h1 : s = [111, 117, 116]
            · subst h1
              cases h2 : isW a 0 3 with
              | true => simp [go, b23, x_k, x_loc, x_glo, x_bin, x_neg, x_not, x_and, x_or, x_cmp, x_cmp2, x_ite, x_nil, x_cons, x_tup, x_lst, x_ix, x_sl, x_call, x_bf, x_isi, x_rng, x_zip, x_comp, x_dget, s_skip, s_seq, s_ex, s_ret, s_asg, s_par, s_ite, s_for, thenS_next, thenS_ret, fin_ret, fin_next, ob_some, obl_bl, bnd_if, lft_if, unl, bnd_ok, bnd_no, lft_some, lft_none, truth, cmpop, D_non, D_bl, D_int, D_str, D_tup, D_lst, P_non, P_bl, P_int, P_str, P_tup, P_lst, P_nil, P_cons, eqM_d, isIn_t, isIn_l, PV.eqv, eqvAll, isTy, vw, callB, item, atI, anyEq, mkl, asg, psz, val, w, h2]
              | false => simp [go, b23, x_k, x_loc, x_glo, x_bin, x_neg, x_not, x_and, x_or, x_cmp, x_cmp2, x_ite, x_nil, x_cons, x_tup, x_lst, x_ix, x_sl, x_call, x_bf, x_isi, x_rng, x_zip, x_comp, x_dget, s_skip, s_seq, s_ex, s_ret, s_asg, s_par, s_ite, s_for, thenS_next, thenS_ret, fin_ret, fin_next, ob_some, obl_bl, bnd_if, lft_if, unl, bnd_ok, bnd_no, lft_some, lft_none, truth, cmpop, D_non, D_bl, D_int, D_str, D_tup, D_lst, P_non, P_bl, P_int, P_str, P_tup, P_lst, P_nil, P_cons, eqM_d, isIn_t, isIn_l, PV.eqv, eqvAll, isTy, vw, callB, item, atI, anyEq, mkl, asg, psz, val, w, h2, lkP]
            · by_cases h2 : s = [115, 101, 116]
              · subst h2
                simp [go, b23, x_k, x_loc, x_glo, x_bin, x_neg, x_not, x_and, x_or, x_cmp, x_cmp2, x_ite, x_nil, x_cons, x_tup, x_lst, x_ix, x_sl, x_call, x_bf, x_isi, x_rng, x_zip, x_comp, x_dget, s_skip, s_seq, s_ex, s_ret, s_asg, s_par, s_ite, s_for, thenS_next, thenS_ret, fin_ret, fin_next, ob_some, obl_bl, bnd_if, lft_if, unl, bnd_ok, bnd_no, lft_some, lft_none, truth, cmpop, D_non, D_bl, D_int, D_str, D_tup, D_lst, P_non, P_bl, P_int, P_str, P_tup, P_lst, P_nil, P_cons, eqM_d, isIn_t, isIn_l, PV.eqv, eqvAll, isTy, vw, callB, item, atI, anyEq, mkl, asg, psz, val]
              · have g : ¬ ((if s = [116, 104, 101, 110] ∨ s = [98, 111, 116, 104] ∨ s = [97, 116] then (3 : Int) else if s = [105, 102] then 4 else 0) = 2) := by split <;> (try split) <;> omega
                simp [go, b23, x_k, x_loc, x_glo, x_bin, x_neg, x_not, x_and, x_or, x_cmp, x_cmp2, x_ite, x_nil, x_cons, x_tup, x_lst, x_ix, x_sl, x_call, x_bf, x_isi, x_rng, x_zip, x_comp, x_dget, s_skip, s_seq, s_ex, s_ret, s_asg, s_par, s_ite, s_for, thenS_next, thenS_ret, fin_ret, fin_next, ob_some, obl_bl, bnd_if, lft_if, unl, bnd_ok, bnd_no, lft_some, lft_none, truth, cmpop, D_non, D_bl, D_int, D_str, D_tup, D_lst, P_non, P_bl, P_int, P_str, P_tup, P_lst, P_nil, P_cons, eqM_d, isIn_t, isIn_l, PV.eqv, eqvAll, isTy, vw, callB, item, atI, anyEq, mkl, asg, psz, val, h1, h2, lkP, g, Ne.symm g]
          · simp [F_non, F_bl, F_int, F_str, F_tup, F_lst, F_cell, F_fn, F_nil, F_cons] at hv
            simp [D_non, D_bl, D_int, D_str, D_tup, D_lst, P_non, P_bl, P_int, P_str, P_tup, P_lst, P_nil, P_cons, eqM_d, isIn_t, isIn_l] at hd
            simp [W_tup, W_cons, W_nil] at hw
            have ra := ih n a mem hv.1 (by omega) (by omega)
            have rb := ih n b mem hv.2 (by omega) (by omega)
            have o2 := over2 (n := n + k + 1) (m := mem) (psz k a) (psz k b)
            have o1 := over1 (n := n + k + 1) (m := mem) (psz k b)
            have w := law_is_whole (n := n + k + 1) (v := b) (lo := 0) (hi := 3) (m := mem) (flat_D hv.2)
            by_cases h1 : s = [115, 101, 116]
            · subst h1
              cases e1 : isF a with
              | false =>
                have e1' : anyEq a [PV.str [102, 114, 111, 109], PV.str [116, 111], PV.str [109, 97, 114, 107]] = false := e1
                simp [go, b23, x_k, x_loc, x_glo, x_bin, x_neg, x_not, x_and, x_or, x_cmp, x_cmp2, x_ite, x_nil, x_cons, x_tup, x_lst, x_ix, x_sl, x_call, x_bf, x_isi, x_rng, x_zip, x_comp, x_dget, s_skip, s_seq, s_ex, s_ret, s_asg, s_par, s_ite, s_for, thenS_next, thenS_ret, fin_ret, fin_next, ob_some, obl_bl, bnd_if, lft_if, unl, bnd_ok, bnd_no, lft_some, lft_none, truth, cmpop, D_non, D_bl, D_int, D_str, D_tup, D_lst, P_non, P_bl, P_int, P_str, P_tup, P_lst, P_nil, P_cons, eqM_d, isIn_t, isIn_l, PV.eqv, eqvAll, isTy, vw, callB, item, atI, mkl, flat_D hv.1, e1', psz, e1, val]
                simp [anyEq, PV.eqv, eqvAll, x_k, x_loc, x_glo, x_bin, x_neg, x_not, x_and, x_or, x_cmp, x_cmp2, x_ite, x_nil, x_cons, x_tup, x_lst, x_ix, x_sl, x_call, x_bf, x_isi, x_rng, x_zip, x_comp, x_dget, s_skip, s_seq, s_ex, s_ret, s_asg, s_par, s_ite, s_for, thenS_next, thenS_ret, fin_ret, fin_next, ob_some, obl_bl, bnd_if, lft_if, unl, bnd_ok, bnd_no, lft_some, lft_none]
              | true =>
                have e1' : anyEq a [PV.str [102, 114, 111, 109], PV.str [116, 111], PV.str [109, 97, 114, 107]] = true := e1
                simp [go, b23, x_k, x_loc, x_glo, x_bin, x_neg, x_not, x_and, x_or, x_cmp, x_cmp2, x_ite, x_nil, x_cons, x_tup, x_lst, x_ix, x_sl, x_call, x_bf, x_isi, x_rng, x_zip, x_comp, x_dget, s_skip, s_seq, s_ex, s_ret, s_asg, s_par, s_ite, s_for, thenS_next, thenS_ret, fin_ret, fin_next, ob_some, obl_bl, bnd_if, lft_if, unl, bnd_ok, bnd_no, lft_some, lft_none, truth, cmpop, D_non, D_bl, D_int, D_str, D_tup, D_lst, P_non, P_bl, P_int, P_str, P_tup, P_lst, P_nil, P_cons, eqM_d, isIn_t, isIn_l, PV.eqv, eqvAll, isTy, vw, callB, item, atI, mkl, flat_D hv.1, e1', psz, e1, w]
                cases e2 : isW b 0 3 <;> simp [anyEq, PV.eqv, eqvAll, x_k, x_loc, x_glo, x_bin, x_neg, x_not, x_and, x_or, x_cmp, x_cmp2, x_ite, x_nil, x_cons, x_tup, x_lst, x_ix, x_sl, x_call, x_bf, x_isi, x_rng, x_zip, x_comp, x_dget, s_skip, s_seq, s_ex, s_ret, s_asg, s_par, s_ite, s_for, thenS_next, thenS_ret, fin_ret, fin_next, ob_some, obl_bl, bnd_if, lft_if, unl, bnd_ok, bnd_no, lft_some, lft_none, D_non, D_bl, D_int, D_str, D_tup, D_lst, P_non, P_bl, P_int, P_str, P_tup, P_lst, P_nil, P_cons, eqM_d, isIn_t, isIn_l, val]
            · by_cases h2 : s = [116, 104, 101, 110] ∨ s = [98, 111, 116, 104]
              · have h3 : ¬ (s = [97, 116]) ∧ ¬ (s = [105, 102]) ∧ (s = [116, 104, 101, 110] ∨ s = [98, 111, 116, 104] ∨ s = [97, 116]) := by rcases h2 with rfl | rfl <;> decide
                simp [go, b23, x_k, x_loc, x_glo, x_bin, x_neg, x_not, x_and, x_or, x_cmp, x_cmp2, x_ite, x_nil, x_cons, x_tup, x_lst, x_ix, x_sl, x_call, x_bf, x_isi, x_rng, x_zip, x_comp, x_dget, s_skip, s_seq, s_ex, s_ret, s_asg, s_par, s_ite, s_for, thenS_next, thenS_ret, fin_ret, fin_next, ob_some, obl_bl, bnd_if, lft_if, unl, bnd_ok, bnd_no, lft_some, lft_none, truth, cmpop, D_non, D_bl, D_int, D_str, D_tup, D_lst, P_non, P_bl, P_int, P_str, P_tup, P_lst, P_nil, P_cons, eqM_d, isIn_t, isIn_l, PV.eqv, eqvAll, isTy, vw, callB, item, atI, anyEq, mkl, asg, psz, compL, cmpB, compT, wipeP, tstB, slice, optI, small, cut, bound, List.all_cons, List.all_nil, h1, h2, h3, lkP, ra, rb, val_D, o2]
              · by_cases h4 : s = [97, 116]
                · subst h4
                  cases a with
                  | tup l =>
                    simp only [F_tup] at hv
                    have od := (odd_ones (n := n + k + 1) (m := mem) (ρ := [some (.tup [.str [97, 116], .tup l, b]), none, none]) hv.1).resolve_right (by simp)
                    have fD : ∀ x ∈ (l.filter fun x => !(isW x 0 3)), x.isD = true := fun x hx => flat_D2 hv.1 x (List.mem_filter.mp hx).1
                    have fn := filter_nil (l := l)
                    generalize hfl : (l.filter fun x => !(isW x 0 3)) = fl at od fD fn
                    have fDe : (∀ (x : PV), x ∈ fl → x.isD = true) = True := eq_true fD
                    cases e : ints? l with
                    | none =>
                      have hne : ¬ (fl = []) := fun z => by
                        have := fn.mp z
                        rw [e] at this
                        cases this
                      have e5 : swB (.tup l) = false := by simp [swB, e]
                      simp [go, b23, x_k, x_loc, x_glo, x_bin, x_neg, x_not, x_and, x_or, x_cmp, x_cmp2, x_ite, x_nil, x_cons, x_tup, x_lst, x_ix, x_sl, x_call, x_bf, x_isi, x_rng, x_zip, x_comp, x_dget, s_skip, s_seq, s_ex, s_ret, s_asg, s_par, s_ite, s_for, thenS_next, thenS_ret, fin_ret, fin_next, ob_some, obl_bl, bnd_if, lft_if, unl, bnd_ok, bnd_no, lft_some, lft_none, truth, cmpop, D_non, D_bl, D_int, D_str, D_tup, D_lst, P_non, P_bl, P_int, P_str, P_tup, P_lst, P_nil, P_cons, eqM_d, isIn_t, isIn_l, PV.eqv, isTy, vw, callB, item, atI, anyEq, eqvAll, mkl, asg, psz, lkP, od, fDe, eqvAll_nil, hne, e5, val]
                    | some is =>
                      have h0 : fl = [] := fn.mpr (by rw [e]; rfl)
                      subst h0
                      have sw := sw_ints e
                      have el := ints_map e
                      subst el
                      have hlen : is.length < 64 := by simp [W_tup] at hw; omega
                      have ev := eqv_ints is (sortU is)
                      generalize decide (is = sortU is) = q at ev sw
                      by_cases h5 : is = []
                      · subst h5
                        simp only [List.map_nil] at od sw
                        simp [compL, go, b23, x_k, x_loc, x_glo, x_bin, x_neg, x_not, x_and, x_or, x_cmp, x_cmp2, x_ite, x_nil, x_cons, x_tup, x_lst, x_ix, x_sl, x_call, x_bf, x_isi, x_rng, x_zip, x_comp, x_dget, s_skip, s_seq, s_ex, s_ret, s_asg, s_par, s_ite, s_for, thenS_next, thenS_ret, fin_ret, fin_next, ob_some, obl_bl, bnd_if, lft_if, unl, bnd_ok, bnd_no, lft_some, lft_none, truth, cmpop, D_non, D_bl, D_int, D_str, D_tup, D_lst, P_non, P_bl, P_int, P_str, P_tup, P_lst, P_nil, P_cons, eqM_d, isIn_t, isIn_l, PV.eqv, isTy, vw, callB, item, atI, anyEq, eqvAll, mkl, asg, psz, lkP, od, eqvAll_nil, sw, val]
                      · cases q with
                        | true =>
                          simp [go, b23, x_k, x_loc, x_glo, x_bin, x_neg, x_not, x_and, x_or, x_cmp, x_cmp2, x_ite, x_nil, x_cons, x_tup, x_lst, x_ix, x_sl, x_call, x_bf, x_isi, x_rng, x_zip, x_comp, x_dget, s_skip, s_seq, s_ex, s_ret, s_asg, s_par, s_ite, s_for, thenS_next, thenS_ret, fin_ret, fin_next, ob_some, obl_bl, bnd_if, lft_if, unl, bnd_ok, bnd_no, lft_some, lft_none, truth, cmpop, D_non, D_bl, D_int, D_str, D_tup, D_lst, P_non, P_bl, P_int, P_str, P_tup, P_lst, P_nil, P_cons, eqM_d, isIn_t, isIn_l, PV.eqv, isTy, vw, callB, item, atI, anyEq, eqvAll, mkl, asg, psz, lkP, od, eqvAll_nil, sw, h5, intsOf_map, hlen, dep_ints, ev, rb, o1, val_D]
                        | false =>
                          simp [go, b23, x_k, x_loc, x_glo, x_bin, x_neg, x_not, x_and, x_or, x_cmp, x_cmp2, x_ite, x_nil, x_cons, x_tup, x_lst, x_ix, x_sl, x_call, x_bf, x_isi, x_rng, x_zip, x_comp, x_dget, s_skip, s_seq, s_ex, s_ret, s_asg, s_par, s_ite, s_for, thenS_next, thenS_ret, fin_ret, fin_next, ob_some, obl_bl, bnd_if, lft_if, unl, bnd_ok, bnd_no, lft_some, lft_none, truth, cmpop, D_non, D_bl, D_int, D_str, D_tup, D_lst, P_non, P_bl, P_int, P_str, P_tup, P_lst, P_nil, P_cons, eqM_d, isIn_t, isIn_l, PV.eqv, isTy, vw, callB, item, atI, anyEq, eqvAll, mkl, asg, psz, lkP, od, eqvAll_nil, sw, h5, intsOf_map, hlen, dep_ints, ev, val]
                  | _ => first | (simp [F_non, F_bl, F_int, F_str, F_tup, F_lst, F_cell, F_fn, F_nil, F_cons] at hv; done) | simp [go, b23, x_k, x_loc, x_glo, x_bin, x_neg, x_not, x_and, x_or, x_cmp, x_cmp2, x_ite, x_nil, x_cons, x_tup, x_lst, x_ix, x_sl, x_call, x_bf, x_isi, x_rng, x_zip, x_comp, x_dget, s_skip, s_seq, s_ex, s_ret, s_asg, s_par, s_ite, s_for, thenS_next, thenS_ret, fin_ret, fin_next, ob_some, obl_bl, bnd_if, lft_if, unl, bnd_ok, bnd_no, lft_some, lft_none, truth, cmpop, D_non, D_bl, D_int, D_str, D_tup, D_lst, P_non, P_bl, P_int, P_str, P_tup, P_lst, P_nil, P_cons, eqM_d, isIn_t, isIn_l, PV.eqv, eqvAll, isTy, vw, callB, item, atI, anyEq, mkl, asg, psz, lkP, swB, val]
                · have g : ¬ ((if s = [116, 104, 101, 110] ∨ s = [98, 111, 116, 104] ∨ s = [97, 116] then (3 : Int) else if s = [105, 102] then 4 else 0) = 3) := by
                    rw [if_neg (by simp only [not_or] at h2 ⊢; exact ⟨h2.1, h2.2, h4⟩)]
                    split <;> omega
                  have h6 : ¬ (s = [116, 104, 101, 110]) ∧ ¬ (s = [98, 111, 116, 104]) := by simpa using h2
                  by_cases h5 : s = [105, 102]
                  · subst h5
                    simp [go, b23, x_k, x_loc, x_glo, x_bin, x_neg, x_not, x_and, x_or, x_cmp, x_cmp2, x_ite, x_nil, x_cons, x_tup, x_lst, x_ix, x_sl, x_call, x_bf, x_isi, x_rng, x_zip, x_comp, x_dget, s_skip, s_seq, s_ex, s_ret, s_asg, s_par, s_ite, s_for, thenS_next, thenS_ret, fin_ret, fin_next, ob_some, obl_bl, bnd_if, lft_if, unl, bnd_ok, bnd_no, lft_some, lft_none, truth, cmpop, D_non, D_bl, D_int, D_str, D_tup, D_lst, P_non, P_bl, P_int, P_str, P_tup, P_lst, P_nil, P_cons, eqM_d, isIn_t, isIn_l, PV.eqv, isTy, vw, callB, item, atI, anyEq, eqvAll, mkl, asg, psz, lkP, val]
                  · simp [go, b23, x_k, x_loc, x_glo, x_bin, x_neg, x_not, x_and, x_or, x_cmp, x_cmp2, x_ite, x_nil, x_cons, x_tup, x_lst, x_ix, x_sl, x_call, x_bf, x_isi, x_rng, x_zip, x_comp, x_dget, s_skip, s_seq, s_ex, s_ret, s_asg, s_par, s_ite, s_for, thenS_next, thenS_ret, fin_ret, fin_next, ob_some, obl_bl, bnd_if, lft_if, unl, bnd_ok, bnd_no, lft_some, lft_none, truth, cmpop, D_non, D_bl, D_int, D_str, D_tup, D_lst, P_non, P_bl, P_int, P_str, P_tup, P_lst, P_nil, P_cons, eqM_d, isIn_t, isIn_l, PV.eqv, isTy, vw, callB, item, atI, anyEq, eqvAll, mkl, asg, psz, h1, h6, h4, h5, lkP, val]
          · simp [F_non, F_bl, F_int, F_str, F_tup, F_lst, F_cell, F_fn, F_nil, F_cons] at hv
            simp [D_non, D_bl, D_int, D_str, D_tup, D_lst, P_non, P_bl, P_int, P_str, P_tup, P_lst, P_nil, P_cons, eqM_d, isIn_t, isIn_l] at hd
            simp [W_tup, W_cons, W_nil] at hw
            have ra := test_size k n a mem hv.1 (by omega)
            have rb := ih n b mem hv.2.1 (by omega) (by omega)
            have rc := ih n c mem hv.2.2 (by omega) (by omega)
            have o3 := over3 (n := n + k + 1) (m := mem) (tsz k a) (psz k b) (psz k c)
            by_cases h1 : s = [105, 102]
            · subst h1
              simp [go, b23, x_k, x_loc, x_glo, x_bin, x_neg, x_not, x_and, x_or, x_cmp, x_cmp2, x_ite, x_nil, x_cons, x_tup, x_lst, x_ix, x_sl, x_call, x_bf, x_isi, x_rng, x_zip, x_comp, x_dget, s_skip, s_seq, s_ex, s_ret, s_asg, s_par, s_ite, s_for, thenS_next, thenS_ret, fin_ret, fin_next, ob_some, obl_bl, bnd_if, lft_if, unl, bnd_ok, bnd_no, lft_some, lft_none, truth, cmpop, D_non, D_bl, D_int, D_str, D_tup, D_lst, P_non, P_bl, P_int, P_str, P_tup, P_lst, P_nil, P_cons, eqM_d, isIn_t, isIn_l, PV.eqv, eqvAll, isTy, vw, callB, item, atI, anyEq, mkl, asg, psz, lkP, ra, rb, rc, val_D, o3]
            · by_cases h2 : s = [115, 101, 116]
              · subst h2
                simp [go, b23, x_k, x_loc, x_glo, x_bin, x_neg, x_not, x_and, x_or, x_cmp, x_cmp2, x_ite, x_nil, x_cons, x_tup, x_lst, x_ix, x_sl, x_call, x_bf, x_isi, x_rng, x_zip, x_comp, x_dget, s_skip, s_seq, s_ex, s_ret, s_asg, s_par, s_ite, s_for, thenS_next, thenS_ret, fin_ret, fin_next, ob_some, obl_bl, bnd_if, lft_if, unl, bnd_ok, bnd_no, lft_some, lft_none, truth, cmpop, D_non, D_bl, D_int, D_str, D_tup, D_lst, P_non, P_bl, P_int, P_str, P_tup, P_lst, P_nil, P_cons, eqM_d, isIn_t, isIn_l, PV.eqv, eqvAll, isTy, vw, callB, item, atI, anyEq, mkl, asg, psz, val]
              · have g : ¬ ((if s = [116, 104, 101, 110] ∨ s = [98, 111, 116, 104] ∨ s = [97, 116] then (3 : Int) else if s = [105, 102] then 4 else 0) = 4) := by
                  rw [if_neg (c := s = [105, 102]) h1]
                  split <;> omega
                have g7 : ¬ ((4 : Int) = if s = [116, 104, 101, 110] ∨ s = [98, 111, 116, 104] ∨ s = [97, 116] then 3 else 0) := by split <;> omega
                simp [go, b23, x_k, x_loc, x_glo, x_bin, x_neg, x_not, x_and, x_or, x_cmp, x_cmp2, x_ite, x_nil, x_cons, x_tup, x_lst, x_ix, x_sl, x_call, x_bf, x_isi, x_rng, x_zip, x_comp, x_dget, s_skip, s_seq, s_ex, s_ret, s_asg, s_par, s_ite, s_for, thenS_next, thenS_ret, fin_ret, fin_next, ob_some, obl_bl, bnd_if, lft_if, unl, bnd_ok, bnd_no, lft_some, lft_none, truth, cmpop, D_non, D_bl, D_int, D_str, D_tup, D_lst, P_non, P_bl, P_int, P_str, P_tup, P_lst, P_nil, P_cons, eqM_d, isIn_t, isIn_l, PV.eqv, eqvAll, isTy, vw, callB, item, atI, anyEq, mkl, asg, psz, h1, h2, lkP, g, g7, val]
          · have e := psz_no (k := k) (v := .tup (.str s :: a :: b :: c :: d :: l)) hdd_long
            have g1 : ∀ i : Int, i ≤ 4 → ¬ ((l.length : Int) + 1 + 1 + 1 + 1 + 1 = i) := fun i hi => by omega
            have g0 : (0 : Int) < (l.length : Int) + 1 + 1 + 1 + 1 + 1 := by omega
            have g : ¬ ((l.length : Int) + 1 + 1 + 1 + 1 + 1 = (if s = [116, 104, 101, 110] ∨ s = [98, 111, 116, 104] ∨ s = [97, 116] then (3 : Int) else if s = [105, 102] then 4 else 0)) := by split <;> (try split) <;> omega
            simp [e, go, b23, x_k, x_loc, x_glo, x_bin, x_neg, x_not, x_and, x_or, x_cmp, x_cmp2, x_ite, x_nil, x_cons, x_tup, x_lst, x_ix, x_sl, x_call, x_bf, x_isi, x_rng, x_zip, x_comp, x_dget, s_skip, s_seq, s_ex, s_ret, s_asg, s_par, s_ite, s_for, thenS_next, thenS_ret, fin_ret, fin_next, ob_some, obl_bl, bnd_if, lft_if, unl, bnd_ok, bnd_no, lft_some, lft_none, truth, cmpop, D_non, D_bl, D_int, D_str, D_tup, D_lst, P_non, P_bl, P_int, P_str, P_tup, P_lst, P_nil, P_cons, eqM_d, isIn_t, isIn_l, PV.eqv, eqvAll, isTy, vw, callB, item, atI, anyEq, mkl, asg, val, lkP, g, g0, g1]
        · have e := psz_no (k := k) (hdd_of (l := l) fun s z => hs ⟨s, z⟩)
          cases x <;> first | (simp [F_non, F_bl, F_int, F_str, F_tup, F_lst, F_cell, F_fn, F_nil, F_cons] at hx; done) | (exact absurd ⟨_, rfl⟩ hs) | simp [e, go, b23, x_k, x_loc, x_glo, x_bin, x_neg, x_not, x_and, x_or, x_cmp, x_cmp2, x_ite, x_nil, x_cons, x_tup, x_lst, x_ix, x_sl, x_call, x_bf, x_isi, x_rng, x_zip, x_comp, x_dget, s_skip, s_seq, s_ex, s_ret, s_asg, s_par, s_ite, s_for, thenS_next, thenS_ret, fin_ret, fin_next, ob_some, obl_bl, bnd_if, lft_if, unl, bnd_ok, bnd_no, lft_some, lft_none, truth, cmpop, D_non, D_bl, D_int, D_str, D_tup, D_lst, P_non, P_bl, P_int, P_str, P_tup, P_lst, P_nil, P_cons, eqM_d, isIn_t, isIn_l, PV.eqv, eqvAll, isTy, vw, callB, item, atI, anyEq, mkl, asg, val]
    | _ => first | (simp [F_non, F_bl, F_int, F_str, F_tup, F_lst, F_cell, F_fn, F_nil, F_cons] at hv; done) | simp [psz, go, b23, x_k, x_loc, x_glo, x_bin, x_neg, x_not, x_and, x_or, x_cmp, x_cmp2, x_ite, x_nil, x_cons, x_tup, x_lst, x_ix, x_sl, x_call, x_bf, x_isi, x_rng, x_zip, x_comp, x_dget, s_skip, s_seq, s_ex, s_ret, s_asg, s_par, s_ite, s_for, thenS_next, thenS_ret, fin_ret, fin_next, ob_some, obl_bl, bnd_if, lft_if, unl, bnd_ok, bnd_no, lft_some, lft_none, truth, cmpop, D_non, D_bl, D_int, D_str, D_tup, D_lst, P_non, P_bl, P_int, P_str, P_tup, P_lst, P_nil, P_cons, eqM_d, isIn_t, isIn_l, PV.eqv, eqvAll, isTy, vw, callB, item, atI, anyEq, mkl, asg, val]
end P00
set_option maxHeartbeats 4000000
namespace P00
open Pv
def posO (o : Option (Int × Int)) : Prop := ∀ n t, o = some (n, t) → 1 ≤ n ∧ 1 ≤ t
theorem pos_ov1 {o : Option (Int × Int)} (h : posO o) : posO (ov1 o) := by
  rcases o with _ | ⟨n, t⟩
  · intro n t e; cases e
  · intro n' t' e
    cases e
    have := h n t rfl
    omega
theorem pos_ov2 {o p : Option (Int × Int)} (h : posO o) (h2 : posO p) : posO (ov2 o p) := by
  rcases o with _ | ⟨n, t⟩ <;> rcases p with _ | ⟨n2, t2⟩ <;> intro n' t' e <;> first | (cases e; done) | skip
  cases e
  have := h n t rfl
  have := h2 n2 t2 rfl
  omega
theorem pos_ov3 {o p q : Option (Int × Int)} (h : posO o) (h2 : posO p) (h3 : posO q) : posO (ov3 o p q) := by
  rcases o with _ | ⟨n, t⟩ <;> rcases p with _ | ⟨n2, t2⟩ <;> rcases q with _ | ⟨n3, t3⟩ <;> intro n' t' e <;> first | (cases e; done) | skip
  cases e
  have := h n t rfl
  have := h2 n2 t2 rfl
  have := h3 n3 t3 rfl
  omega
theorem pos_one : posO (some (1, 1)) := by intro n t e; cases e; omega
theorem pos_none : posO none := by intro n t e; cases e
theorem pos_if {c : Prop} [Decidable c] {a b : Option (Int × Int)} (ha : posO a) (hb : posO b) : posO (if c then a else b) := by
  split
  · exact ha
  · exact hb
theorem tsz_pos : ∀ (k : Nat) (v : PV), posO (tsz k v) := by
  intro k
  induction k with
  | zero => exact fun v => pos_none
  | succ k ih =>
    intro v
    cases e : hdd v with
    | false => rw [tsz_no e]; exact pos_none
    | true =>
      unfold hdd at e
      split at e
      · exact pos_if pos_one pos_none
      · exact pos_if pos_one (pos_if (pos_ov1 (ih _)) pos_none)
      · exact pos_if (pos_ov2 (ih _) (ih _)) pos_none
      · exact pos_if pos_one pos_none
      · cases e
theorem psz_pos : ∀ (k : Nat) (v : PV), posO (psz k v) := by
  intro k
  induction k with
  | zero => exact fun v => pos_none
  | succ k ih =>
    intro v
    cases e : hdd v with
    | false => rw [psz_no e]; exact pos_none
    | true =>
      unfold hdd at e
      split at e
      · exact pos_if pos_one pos_none
      · exact pos_if pos_one pos_none
      · exact pos_if (pos_if pos_one pos_none) (pos_if (pos_ov2 (ih _) (ih _)) (pos_if (pos_ov1 (ih _)) pos_none))
      · exact pos_if (pos_ov3 (tsz_pos _ _) (ih _) (ih _)) pos_none
      · cases e
/-- r: what is left of m -/
def fitT (o : Option (Int × Int)) (h : Nat) (m r : Int) : Prop := match o with
  | some (n, t) => r = if t ≤ h ∧ n ≤ m then m - n else -1
  | none => r = -1
theorem fit_none {h : Nat} {m : Int} : fitT none h m (-1) := rfl
theorem fit_one {h : Nat} {m : Int} (hm : 0 < m) : fitT (some (1, 1)) (h + 1) m (m - 1) := by
  show _ = _
  rw [if_pos ⟨by omega, by omega⟩]
theorem fit_zero {o : Option (Int × Int)} {m : Int} (p : posO o) : fitT o 0 m (-1) := by
  rcases o with _ | ⟨n, t⟩
  · rfl
  · have := p n t rfl
    show _ = _
    rw [if_neg (by omega)]
theorem fit_zero2 {o : Option (Int × Int)} {h : Nat} (p : posO o) : fitT o h 0 (-1) := by
  rcases o with _ | ⟨n, t⟩
  · rfl
  · have := p n t rfl
    show _ = _
    rw [if_neg (by omega)]
theorem fit_ov1 {o : Option (Int × Int)} {h : Nat} {m r : Int} (hm : 0 < m) (f : fitT o h (m - 1) r) : fitT (ov1 o) (h + 1) m r := by
  rcases o with _ | ⟨n, t⟩
  · exact f
  · have f3 : r = if t ≤ h ∧ n ≤ m - 1 then m - 1 - n else -1 := f
    show r = if 1 + t ≤ ((h + 1 : Nat) : Int) ∧ 1 + n ≤ m then m - (1 + n) else -1
    rw [f3]
    split <;> split <;> omega
/-- one after another -/
theorem fit_two {n t n2 t2 : Int} {h : Nat} {m r q : Int} (p1 : 1 ≤ n ∧ 1 ≤ t) (p2 : 1 ≤ n2 ∧ 1 ≤ t2) (f : fitT (some (n, t)) h m r) (g : 0 ≤ r → fitT (some (n2, t2)) h r q) : fitT (some (n + n2, max t t2)) h m (if 0 ≤ r then q else -1) := by
  have f3 : r = if t ≤ h ∧ n ≤ m then m - n else -1 := f
  show _ = _
  by_cases hr : 0 ≤ r
  · rw [if_pos hr]
    have g3 : q = if t2 ≤ h ∧ n2 ≤ r then r - n2 else -1 := g hr
    have c : t ≤ h ∧ n ≤ m := by
      by_cases c : t ≤ h ∧ n ≤ m
      · exact c
      · rw [if_neg c] at f3; omega
    rw [if_pos c] at f3
    subst f3
    rw [g3]
    split <;> split <;> omega
  · rw [if_neg hr]
    have c : ¬ (t ≤ h ∧ n ≤ m) := by
      intro c
      rw [if_pos c] at f3; omega
    rw [if_neg (by omega)]
theorem fit_ov2 {o p : Option (Int × Int)} {h : Nat} {m r q : Int} (hm : 0 < m) (po : posO o) (pp : posO p) (f : fitT o h (m - 1) r) (g : 0 ≤ r → fitT p h r q) : fitT (ov2 o p) (h + 1) m (if 0 ≤ r then q else -1) := by
  rcases o with _ | ⟨n, t⟩
  · have e : r = -1 := f
    subst e
    rw [if_neg (by omega)]
    exact rfl
  · rcases p with _ | ⟨n2, t2⟩
    · show _ = _
      by_cases hr : 0 ≤ r
      · rw [if_pos hr]; exact g hr
      · rw [if_neg hr]
    · have z := fit_two (po n t rfl) (pp n2 t2 rfl) f g
      exact fit_ov1 (o := some (n + n2, max t t2)) hm z
theorem tl_fit : ∀ (k : Nat) (v : PV) (h : Nat) (m : Int), v.dep < k → 0 ≤ m → fitT (tsz k v) h m (tl h v m) := by
  intro k
  induction k with
  | zero => intro v h m hd _; omega
  | succ k ih =>
    intro v h m hd hm0
    cases h with
    | zero => exact fit_zero (tsz_pos _ _)
    | succ h =>
      by_cases hm : m = 0
      · subst hm
        rw [tl_zero]
        exact fit_zero2 (tsz_pos _ _)
      · have hp : 0 < m := by omega
        cases e : hdd v with
        | false => rw [tsz_no e, tl_hdd e]; exact fit_none
        | true =>
          unfold hdd at e
          split at e
          · rename_i s
            show fitT (if s = [97, 110, 121] then some (1, 1) else none) (h + 1) m (if m = 0 then -1 else if s = [97, 110, 121] then m - 1 else -1)
            rw [if_neg hm]
            split
            · exact fit_one hp
            · exact fit_none
          · rename_i s a
            simp only [P_tup, P_cons, P_nil, P_str] at hd
            show fitT (if s = [105, 110] ∧ isW a 0 3 = true then some (1, 1) else if s = [110, 111, 116] then ov1 (tsz k a) else none) (h + 1) m (if m = 0 then -1 else if s = [105, 110] ∧ isW a 0 3 = true then m - 1 else if s = [110, 111, 116] then (if 0 ≤ m - 1 then tl h a (m - 1) else -1) else -1)
            rw [if_neg hm]
            split
            · exact fit_one hp
            · split
              · rw [if_pos (by omega)]
                exact fit_ov1 hp (ih a h (m - 1) (by omega) (by omega))
              · exact fit_none
          · rename_i s a b
            simp only [P_tup, P_cons, P_nil, P_str] at hd
            show fitT (if s = [97, 110, 100] ∨ s = [111, 114] then ov2 (tsz k a) (tsz k b) else none) (h + 1) m (if m = 0 then -1 else if s = [97, 110, 100] ∨ s = [111, 114] then (if 0 ≤ (if 0 ≤ m - 1 then tl h a (m - 1) else -1) then tl h b (if 0 ≤ m - 1 then tl h a (m - 1) else -1) else -1) else -1)
            rw [if_neg hm]
            split
            · have c : 0 ≤ m - 1 := by omega
              simp only [if_pos c]
              exact fit_ov2 hp (tsz_pos _ _) (tsz_pos _ _) (ih a h (m - 1) (by omega) c) fun hr => ih b h _ (by omega) hr
            · exact fit_none
          · rename_i s a b c
            show fitT (if s = [102, 105, 101, 108, 100] ∧ fieldB a b c = true then some (1, 1) else none) (h + 1) m (if m = 0 then -1 else if s = [102, 105, 101, 108, 100] ∧ fieldB a b c = true then m - 1 else -1)
            rw [if_neg hm]
            split
            · exact fit_one hp
            · exact fit_none
          · cases e
theorem pl_fit : ∀ (k : Nat) (v : PV) (h : Nat) (m : Int), v.dep < k → 0 ≤ m → fitT (psz k v) h m (pl h v m) := by
  intro k
  induction k with
  | zero => intro v h m hd _; omega
  | succ k ih =>
    intro v h m hd hm0
    cases h with
    | zero => exact fit_zero (psz_pos _ _)
    | succ h =>
      by_cases hm : m = 0
      · subst hm
        rw [pl_zero]
        exact fit_zero2 (psz_pos _ _)
      · have hp : 0 < m := by omega
        have c : 0 ≤ m - 1 := by omega
        cases e : hdd v with
        | false => rw [psz_no e, pl_hdd e]; exact fit_none
        | true =>
          unfold hdd at e
          split at e
          · rename_i s
            show fitT (if s = [100, 114, 111, 112] ∨ s = [112, 97, 115, 115] then some (1, 1) else none) (h + 1) m (if m = 0 then -1 else if s = [100, 114, 111, 112] ∨ s = [112, 97, 115, 115] then m - 1 else -1)
            rw [if_neg hm]
            split
            · exact fit_one hp
            · exact fit_none
          · rename_i s a
            show fitT (if s = [111, 117, 116] ∧ isW a 0 3 = true then some (1, 1) else none) (h + 1) m (if m = 0 then -1 else if s = [111, 117, 116] ∧ isW a 0 3 = true then m - 1 else -1)
            rw [if_neg hm]
            split
            · exact fit_one hp
            · exact fit_none
          · rename_i s a b
            simp only [P_tup, P_cons, P_nil, P_str] at hd
            show fitT (if s = [115, 101, 116] then (if isF a = true ∧ isW b 0 3 = true then some (1, 1) else none) else if s = [116, 104, 101, 110] ∨ s = [98, 111, 116, 104] then ov2 (psz k a) (psz k b) else if s = [97, 116] ∧ swB a = true then ov1 (psz k b) else none) (h + 1) m
              (if m = 0 then -1 else if s = [115, 101, 116] ∧ isF a = true ∧ isW b 0 3 = true then m - 1 else if s = [98, 111, 116, 104] ∨ s = [116, 104, 101, 110] then seq2 (pl h) a b (m - 1) else if s = [97, 116] ∧ swB a = true then (if 0 ≤ m - 1 then pl h b (m - 1) else -1) else -1)
            rw [if_neg hm]
            by_cases h1 : s = [115, 101, 116]
            · subst h1
              rw [if_pos rfl]
              by_cases h2 : isF a = true ∧ isW b 0 3 = true
              · rw [if_pos h2, if_pos ⟨rfl, h2⟩]
                exact fit_one hp
              · rw [if_neg h2, if_neg (fun z => h2 z.2), if_neg (by decide), if_neg (by intro z; exact absurd z.1 (by decide))]
                exact fit_none
            · rw [if_neg h1, if_neg (c := s = [115, 101, 116] ∧ isF a = true ∧ isW b 0 3 = true) (fun z => h1 z.1)]
              by_cases h2 : s = [116, 104, 101, 110] ∨ s = [98, 111, 116, 104]
              · rw [if_pos h2, if_pos h2.symm]
                unfold seq2
                simp only [if_pos c]
                exact fit_ov2 hp (psz_pos _ _) (psz_pos _ _) (ih a h (m - 1) (by omega) c) fun hr => ih b h _ (by omega) hr
              · rw [if_neg h2, if_neg (c := s = [98, 111, 116, 104] ∨ s = [116, 104, 101, 110]) (fun z => h2 z.symm)]
                split
                · try rw [if_pos c]
                  exact fit_ov1 hp (ih b h (m - 1) (by omega) c)
                · exact fit_none
          · rename_i s a b d
            simp only [P_tup, P_cons, P_nil, P_str] at hd
            show fitT (if s = [105, 102] then ov3 (tsz k a) (psz k b) (psz k d) else none) (h + 1) m (if m = 0 then -1 else if s = [105, 102] then seq2 (pl h) b d (tl h a (m - 1)) else -1)
            rw [if_neg hm]
            split
            · have fa := tl_fit k a h (m - 1) (by omega) c
              have pa := tsz_pos k a
              have pb := psz_pos k b
              have pd := psz_pos k d
              have fb := fun r hr => ih b h r (by omega) hr
              have fd := fun r hr => ih d h r (by omega) hr
              generalize tl h a (m - 1) = r at fa ⊢
              generalize tsz k a = oa at fa pa ⊢
              generalize psz k b = ob at fb pb ⊢
              generalize psz k d = od at fd pd ⊢
              unfold seq2
              rcases oa with _ | ⟨n1, t1⟩
              · have e : r = -1 := fa
                subst e
                show _ = _
                simp
              · rcases ob with _ | ⟨n2, t2⟩
                · show _ = _
                  have z : ∀ (x : Int), (if 0 ≤ (if 0 ≤ r then pl h b r else -1) then x else -1) = -1 := by
                    intro x
                    by_cases hr : 0 ≤ r
                    · have e : pl h b r = -1 := fb r hr
                      rw [if_pos hr, e, if_neg (by omega)]
                    · rw [if_neg hr, if_neg (by omega)]
                  exact z _
                · have z1 := fit_two (pa n1 t1 rfl) (pb n2 t2 rfl) fa (q := pl h b r) fun hr => fb r hr
                  generalize (if 0 ≤ r then pl h b r else -1) = r2 at z1 ⊢
                  rcases od with _ | ⟨n3, t3⟩
                  · show _ = _
                    by_cases hr : 0 ≤ r2
                    · have e : pl h d r2 = -1 := fd r2 hr
                      rw [if_pos hr, e]
                    · rw [if_neg hr]
                  · have p1 := pa n1 t1 rfl
                    have p2 := pb n2 t2 rfl
                    have z2 := fit_two (n := n1 + n2) (t := max t1 t2) ⟨by omega, by omega⟩ (pd n3 t3 rfl) z1 (q := pl h d r2) fun hr => fd r2 hr
                    have z3 := fit_ov1 (o := some (n1 + n2 + n3, max (max t1 t2) t3)) hp z2
                    have e : ov1 (some (n1 + n2 + n3, max (max t1 t2) t3)) = ov3 (some (n1, t1)) (some (n2, t2)) (some (n3, t3)) := by
                      simp [ov1, ov3]; omega
                    rw [e] at z3
                    exact z3
            · exact fit_none
          · cases e
theorem fit_let {o : Option (Int × Int)} {r : Int} (f : fitT o 12 60 r) : decide (0 ≤ r) = letB o := by
  rcases o with _ | ⟨n, t⟩
  · have e : r = -1 := f
    subst e; rfl
  · have f3 : r = if t ≤ ((12 : Nat) : Int) ∧ n ≤ 60 then 60 - n else -1 := f
    simp only [letB]
    rw [f3]
    by_cases h1 : n ≤ 60 <;> by_cases h2 : t ≤ 12 <;> simp [h1, h2] <;> omega
end P00
set_option maxHeartbeats 4000000
namespace P00
open Pv
/-! ### draws -/
theorem r15 (n : Nat) (a : PV) (m : Mem) : run prg (n + 1) 15 [a] m = go b15 1 2 n [a] m := rfl
theorem r16 (n : Nat) (a b : PV) (m : Mem) : run prg (n + 1) 16 [a, b] m = go b16 2 4 n [a, b] m := rfl
theorem r17 (n : Nat) (a b : PV) (m : Mem) : run prg (n + 1) 17 [a, b] m = go b17 2 2 n [a, b] m := rfl
theorem r18 (n : Nat) (a b c : PV) (m : Mem) : run prg (n + 1) 18 [a, b, c] m = go b18 3 5 n [a, b, c] m := rfl
theorem r19 (n : Nat) (a b : PV) (m : Mem) : run prg (n + 1) 19 [a, b] m = go b19 2 3 n [a, b] m := rfl
def CupM (m : Mem) : Prop := ∃ a b : Int, 0 ≤ a ∧ 0 ≤ b ∧ b < 4294967296 ∧ m = [[.int a, .int b]]
theorem inL_t {b : Int} (h0 : 0 ≤ b) (h1 : b < 4294967296) : inL b = true := by
  simp [inL]; omega
theorem roll {n : Nat} {m : Mem} {k : Int} (c : CupM m) (h1 : 1 ≤ k) (h2 : k ≤ 1000) : ∃ (r : Int) (m' : Mem), CupM m' ∧ 0 ≤ r ∧ r < k ∧ run prg (n + 1) 16 [.cell 0, .int k] m = .ok (.int r) m' := by
  obtain ⟨a, b, ha, hb, hb2, rfl⟩ := c
  have hk : 0 < k := by omega
  have hk2 : k < 1073741824 := by omega
  by_cases h : 0 < a
  · refine ⟨a % k, [[.int (a / k), .int b]], ⟨a / k, b, Int.ediv_nonneg ha (by omega), hb, hb2, rfl⟩, Int.emod_nonneg _ (by omega), Int.emod_lt_of_pos _ hk, ?_⟩
    rw [r16]
    simp [go, b16, x_k, x_loc, x_glo, x_bin, x_neg, x_not, x_and, x_or, x_cmp, x_cmp2, x_ite, x_nil, x_cons, x_tup, x_lst, x_ix, x_sl, x_call, x_bf, x_isi, x_rng, x_zip, x_comp, x_dget, s_skip, s_seq, s_ex, s_ret, s_asg, s_par, s_ite, s_for, thenS_next, thenS_ret, fin_ret, fin_next, ob_some, obl_bl, bnd_if, lft_if, unl, bnd_ok, bnd_no, lft_some, lft_none, truth, cmpop, item, vw, atI, h, asg, callB, binop, arith, hk, hk2, evS, D_non, D_bl, D_int, D_str, D_tup, D_lst, P_non, P_bl, P_int, P_str, P_tup, P_lst, P_nil, P_cons, eqM_d, isIn_t, isIn_l]
  · have e : a = 0 := by omega
    subst e
    have q1 : 0 ≤ (b * 31177 + 8117) % 2147483543 := Int.emod_nonneg _ (by omega)
    have q2 : (b * 31177 + 8117) % 2147483543 < 2147483543 := Int.emod_lt_of_pos _ (by omega)
    generalize hx : (b * 31177 + 8117) % 2147483543 = x at q1 q2
    have i1 : inL 31177 = true := by decide
    have i2 : inL x = true := inL_t q1 (by omega)
    refine ⟨(x * (x + 293)) % 2147483587 / 887 % k, [[.int 0, .int x]], ⟨0, x, by omega, q1, by omega, rfl⟩, Int.emod_nonneg _ (by omega), Int.emod_lt_of_pos _ hk, ?_⟩
    rw [r16]
    simp [go, b16, x_k, x_loc, x_glo, x_bin, x_neg, x_not, x_and, x_or, x_cmp, x_cmp2, x_ite, x_nil, x_cons, x_tup, x_lst, x_ix, x_sl, x_call, x_bf, x_isi, x_rng, x_zip, x_comp, x_dget, s_skip, s_seq, s_ex, s_ret, s_asg, s_par, s_ite, s_for, thenS_next, thenS_ret, fin_ret, fin_next, ob_some, obl_bl, bnd_if, lft_if, unl, bnd_ok, bnd_no, lft_some, lft_none, truth, cmpop, item, vw, atI, asg, callB, binop, arith, hk, hk2, evS, D_non, D_bl, D_int, D_str, D_tup, D_lst, P_non, P_bl, P_int, P_str, P_tup, P_lst, P_nil, P_cons, eqM_d, isIn_t, isIn_l, i1, i2, hx]
theorem some_ {n : Nat} {m : Mem} {l : List PV} (c : CupM m) (h1 : 1 ≤ l.length) (h2 : l.length ≤ 1000) : ∃ (x : PV) (m' : Mem), CupM m' ∧ x ∈ l ∧ run prg (n + 2) 17 [.cell 0, .lst l] m = .ok x m' := by
  obtain ⟨r, m', c', p1, p2, e⟩ := roll (n := n) (k := (l.length : Int)) c (by omega) (by omega)
  have hr : r.toNat < l.length := by omega
  refine ⟨l[r.toNat], m', c', List.getElem_mem hr, ?_⟩
  rw [r17]
  simp [go, b17, x_k, x_loc, x_glo, x_bin, x_neg, x_not, x_and, x_or, x_cmp, x_cmp2, x_ite, x_nil, x_cons, x_tup, x_lst, x_ix, x_sl, x_call, x_bf, x_isi, x_rng, x_zip, x_comp, x_dget, s_skip, s_seq, s_ex, s_ret, s_asg, s_par, s_ite, s_for, thenS_next, thenS_ret, fin_ret, fin_next, ob_some, obl_bl, bnd_if, lft_if, unl, bnd_ok, bnd_no, lft_some, lft_none, callB, vw, e, item, atI, p1, p2, hr]
theorem cup {n : Nat} (ns : List Int) (h : ns.length ≤ 63) : ∃ m', CupM m' ∧ run prg (n + 1) 15 [.lst (ns.map .int)] [] = .ok (.cell 0) m' := by
  rw [r15]
  have hD : ∀ x ∈ (ns.map PV.int), x.isD = true := by
    intro x hx
    obtain ⟨i, _, rfl⟩ := List.mem_map.mp hx
    rfl
  have hDe : (∀ (x : PV), x ∈ (ns.map PV.int) → x.isD = true) = True := eq_true hD
  obtain ⟨i, l, hl⟩ : ∃ (i : Int) (l : List PV), ns.map PV.int ++ [.int 0] = .int i :: l := by
    cases ns with
    | nil => exact ⟨0, [], rfl⟩
    | cons a ns => exact ⟨a, ns.map PV.int ++ [.int 0], rfl⟩
  generalize hls : ns.map PV.int = ls at hDe hl
  have hlen : ls.length ≤ 63 := by rw [← hls]; simpa using h
  have hb : ls.length + 1 ≤ big := by unfold big; omega
  have hD2 : (∀ (x : PV), x ∈ ls ++ [PV.int 0] → x.isD = true) = True := by
    refine eq_true fun x hx => ?_
    rcases List.mem_append.mp hx with hx | hx
    · exact (of_eq_true hDe) x hx
    · have : x = .int 0 := by simpa using hx
      subst this; rfl
  rw [hl] at hD2
  have i1 : inL 353 = true := by decide
  have q0 : 0 ≤ (if i < 0 then -i else i) := by split <;> omega
  generalize hz : (if i < 0 then -i else i) = z at q0
  have q1 : 0 ≤ (z * 353 + 2797) % 2077503023 := Int.emod_nonneg _ (by omega)
  have q2 : (z * 353 + 2797) % 2077503023 < 2077503023 := Int.emod_lt_of_pos _ (by omega)
  by_cases hbig : 1000000000000000000 ≤ z
  · refine ⟨[[.int (z / 127), .int ((z * 353 + 2797) % 2077503023 + 229)]], ⟨z / 127, _, Int.ediv_nonneg q0 (by omega), by omega, by omega, rfl⟩, ?_⟩
    simp [go, b15, x_k, x_loc, x_glo, x_bin, x_neg, x_not, x_and, x_or, x_cmp, x_cmp2, x_ite, x_nil, x_cons, x_tup, x_lst, x_ix, x_sl, x_call, x_bf, x_isi, x_rng, x_zip, x_comp, x_dget, s_skip, s_seq, s_ex, s_ret, s_asg, s_par, s_ite, s_for, thenS_next, thenS_ret, fin_ret, fin_next, ob_some, obl_bl, bnd_if, lft_if, unl, bnd_ok, bnd_no, lft_some, lft_none, callB, vw, mkl, hDe, binop, hb, hl, hD2, item, atI, arith, asg, i1, hz, hbig, cmpop, truth]
    rfl
  · refine ⟨[[.int 0, .int ((z * 353 + 2797) % 2077503023 + 229)]], ⟨0, _, by omega, by omega, by omega, rfl⟩, ?_⟩
    simp [go, b15, x_k, x_loc, x_glo, x_bin, x_neg, x_not, x_and, x_or, x_cmp, x_cmp2, x_ite, x_nil, x_cons, x_tup, x_lst, x_ix, x_sl, x_call, x_bf, x_isi, x_rng, x_zip, x_comp, x_dget, s_skip, s_seq, s_ex, s_ret, s_asg, s_par, s_ite, s_for, thenS_next, thenS_ret, fin_ret, fin_next, ob_some, obl_bl, bnd_if, lft_if, unl, bnd_ok, bnd_no, lft_some, lft_none, callB, vw, mkl, hDe, binop, hb, hl, hD2, item, atI, arith, asg, i1, hz, hbig, cmpop, truth]
    rfl
end P00
set_option maxHeartbeats 4000000
namespace P00
open Pv
def NB : Nat → Int
  | 0 => 1
  | d + 1 => 1 + 2 * NB d
structure TestOk (d : Nat) (v : PV) : Prop where
  flat : v.flat = true
  dep : v.dep ≤ d + 1
  wid : wid v ≤ 4
  size : ∃ n t : Int, n ≤ NB d ∧ t ≤ d + 1 ∧ ∀ k, d + 1 ≤ k → tsz k v = some (n, t)
theorem NB_pos : ∀ d, 1 ≤ NB d
  | 0 => by simp [NB]
  | d + 1 => by have := NB_pos d; simp [NB]; omega
theorem ok_field {d : Nat} {x : PV} {lo r : Int} (hx : x ∈ [PV.str [102, 114, 111, 109], .str [116, 111], .str [109, 97, 114, 107]]) (h0 : 0 ≤ lo) (h1 : lo < 4) (h2 : 0 ≤ r) (h3 : r < 4 - lo) : TestOk d (.tup [.str [102, 105, 101, 108, 100], x, .int lo, .int (lo + r)]) := by
  have hf : isF x = true ∧ x.flat = true ∧ x.dep = 0 ∧ P00.wid x = 0 := by
    simp only [List.mem_cons, List.not_mem_nil, or_false] at hx
    rcases hx with rfl | rfl | rfl <;> exact ⟨by decide, by simp [F_non, F_bl, F_int, F_str, F_tup, F_lst, F_cell, F_fn, F_nil, F_cons], by simp [D_non, D_bl, D_int, D_str, D_tup, D_lst, P_non, P_bl, P_int, P_str, P_tup, P_lst, P_nil, P_cons, eqM_d, isIn_t, isIn_l], by simp [P00.wid]⟩
  obtain ⟨f1, f2, f3, f4⟩ := hf
  refine ⟨by simp [F_non, F_bl, F_int, F_str, F_tup, F_lst, F_cell, F_fn, F_nil, F_cons, f2], by simp [D_non, D_bl, D_int, D_str, D_tup, D_lst, P_non, P_bl, P_int, P_str, P_tup, P_lst, P_nil, P_cons, eqM_d, isIn_t, isIn_l, f3], by simp [W_tup, W_cons, W_nil, f4, P00.wid], 1, 1, NB_pos d, by omega, fun k hk => ?_⟩
  obtain ⟨k, rfl⟩ : ∃ j, k = j + 1 := ⟨k - 1, by omega⟩
  have e1 : isW (.int lo) 0 3 = true := by simp [isW]; omega
  have e2 : isV (.int (lo + r)) (.int lo) = true := by simp [isV, isW]; omega
  simp [tsz, fieldB, f1, e1, e2]
theorem ok_in {d : Nat} {r : Int} (h0 : 0 ≤ r) (h1 : r < 4) : TestOk d (.tup [.str [105, 110], .int r]) := by
  refine ⟨by simp [F_non, F_bl, F_int, F_str, F_tup, F_lst, F_cell, F_fn, F_nil, F_cons], by simp [D_non, D_bl, D_int, D_str, D_tup, D_lst, P_non, P_bl, P_int, P_str, P_tup, P_lst, P_nil, P_cons, eqM_d, isIn_t, isIn_l], by simp [W_tup, W_cons, W_nil, P00.wid], 1, 1, NB_pos d, by omega, fun k hk => ?_⟩
  obtain ⟨k, rfl⟩ : ∃ j, k = j + 1 := ⟨k - 1, by omega⟩
  have e1 : isW (.int r) 0 3 = true := by simp [isW]; omega
  simp [tsz, e1]
theorem ok_not {d : Nat} {v : PV} (h : TestOk d v) : TestOk (d + 1) (.tup [.str [110, 111, 116], v]) := by
  obtain ⟨h1, h2, h3, n, t, h4, h5, h6⟩ := h
  refine ⟨by simp [F_non, F_bl, F_int, F_str, F_tup, F_lst, F_cell, F_fn, F_nil, F_cons, h1], by simp [D_non, D_bl, D_int, D_str, D_tup, D_lst, P_non, P_bl, P_int, P_str, P_tup, P_lst, P_nil, P_cons, eqM_d, isIn_t, isIn_l]; omega, by simp [W_tup, W_cons, W_nil, P00.wid]; omega, 1 + n, 1 + t, by have := NB_pos d; simp [NB]; omega, by omega, fun k hk => ?_⟩
  obtain ⟨k, rfl⟩ : ∃ j, k = j + 1 := ⟨k - 1, by omega⟩
  simp [tsz, h6 k (by omega), ov1]
theorem ok_two {d : Nat} {s : List Nat} {v w : PV} (hs : s = [97, 110, 100] ∨ s = [111, 114]) (h : TestOk d v) (g : TestOk d w) : TestOk (d + 1) (.tup [.str s, v, w]) := by
  obtain ⟨h1, h2, h3, n, t, h4, h5, h6⟩ := h
  obtain ⟨g1, g2, g3, n2, t2, g4, g5, g6⟩ := g
  refine ⟨by simp [F_non, F_bl, F_int, F_str, F_tup, F_lst, F_cell, F_fn, F_nil, F_cons, h1, g1], by simp [D_non, D_bl, D_int, D_str, D_tup, D_lst, P_non, P_bl, P_int, P_str, P_tup, P_lst, P_nil, P_cons, eqM_d, isIn_t, isIn_l]; omega, by simp [W_tup, W_cons, W_nil, P00.wid]; omega, 1 + (n + n2), 1 + max t t2, by simp [NB]; omega, by omega, fun k hk => ?_⟩
  obtain ⟨k, rfl⟩ : ∃ j, k = j + 1 := ⟨k - 1, by omega⟩
  simp [tsz, h6 k (by omega), g6 k (by omega), ov2, hs]
theorem mem2 {x : PV} {a b : PV} (h : x ∈ [a, b]) : x = a ∨ x = b := by simpa using h
theorem draw_test : ∀ (d n : Nat) (m : Mem), CupM m → ∃ v m', CupM m' ∧ TestOk d v ∧ run prg (n + d + 3) 18 [.cell 0, .int d, .bl true] m = .ok v m' := by
  intro d
  induction d with
  | zero =>
    intro n m c
    obtain ⟨w, m1, c1, w0, w1, e1⟩ := roll (n := n + 1) (k := 5) c (by omega) (by omega)
    by_cases hw : w < 4
    · obtain ⟨lo, m2, c2, l0, l1, e2⟩ := roll (n := n + 1) (k := 4) c1 (by omega) (by omega)
      obtain ⟨x, m3, c3, hx, e3⟩ := some_ (n := n) (l := [.str [102, 114, 111, 109], .str [116, 111], .str [109, 97, 114, 107]]) c2 (by simp) (by simp)
      obtain ⟨r, m4, c4, q0, q1, e4⟩ := roll (n := n + 1) (k := 4 - lo) c3 (by omega) (by omega)
      have ok := ok_field (d := 0) hx l0 l1 q0 q1
      refine ⟨_, m4, c4, ok, ?_⟩
      have hxD : x.isD = true := by
        have := ok.flat
        simp [F_non, F_bl, F_int, F_str, F_tup, F_lst, F_cell, F_fn, F_nil, F_cons] at this
        exact flat_D this
      rw [show n + 0 + 3 = (n + 2) + 1 from rfl, r18]
      simp [go, b18, x_k, x_loc, x_glo, x_bin, x_neg, x_not, x_and, x_or, x_cmp, x_cmp2, x_ite, x_nil, x_cons, x_tup, x_lst, x_ix, x_sl, x_call, x_bf, x_isi, x_rng, x_zip, x_comp, x_dget, s_skip, s_seq, s_ex, s_ret, s_asg, s_par, s_ite, s_for, thenS_next, thenS_ret, fin_ret, fin_next, ob_some, obl_bl, bnd_if, lft_if, unl, bnd_ok, bnd_no, lft_some, lft_none, cmpop, truth, e1, asg, PV.lt, vw, hw, e2, mkl, e3, e4, binop, arith, D_non, D_bl, D_int, D_str, D_tup, D_lst, P_non, P_bl, P_int, P_str, P_tup, P_lst, P_nil, P_cons, eqM_d, isIn_t, isIn_l, hxD]
    · have hw4 : w = 4 := by omega
      subst hw4
      obtain ⟨r, m2, c2, l0, l1, e2⟩ := roll (n := n + 1) (k := 4) c1 (by omega) (by omega)
      refine ⟨_, m2, c2, ok_in l0 l1, ?_⟩
      rw [show n + 0 + 3 = (n + 2) + 1 from rfl, r18]
      simp [go, b18, x_k, x_loc, x_glo, x_bin, x_neg, x_not, x_and, x_or, x_cmp, x_cmp2, x_ite, x_nil, x_cons, x_tup, x_lst, x_ix, x_sl, x_call, x_bf, x_isi, x_rng, x_zip, x_comp, x_dget, s_skip, s_seq, s_ex, s_ret, s_asg, s_par, s_ite, s_for, thenS_next, thenS_ret, fin_ret, fin_next, ob_some, obl_bl, bnd_if, lft_if, unl, bnd_ok, bnd_no, lft_some, lft_none, cmpop, truth, e1, asg, PV.lt, vw, e2, D_non, D_bl, D_int, D_str, D_tup, D_lst, P_non, P_bl, P_int, P_str, P_tup, P_lst, P_nil, P_cons, eqM_d, isIn_t, isIn_l, PV.eqv]
  | succ d ih =>
    intro n m c
    obtain ⟨w, m1, c1, w0, w1, e1⟩ := roll (n := n + d + 2) (k := 8) c (by omega) (by omega)
    have hd : (0 : Int) < (d : Int) + 1 := by omega
    by_cases hw : w < 4
    · obtain ⟨lo, m2, c2, l0, l1, e2⟩ := roll (n := n + d + 2) (k := 4) c1 (by omega) (by omega)
      obtain ⟨x, m3, c3, hx, e3⟩ := some_ (n := n + d + 1) (l := [.str [102, 114, 111, 109], .str [116, 111], .str [109, 97, 114, 107]]) c2 (by simp) (by simp)
      obtain ⟨r, m4, c4, q0, q1, e4⟩ := roll (n := n + d + 2) (k := 4 - lo) c3 (by omega) (by omega)
      have ok := ok_field (d := d + 1) hx l0 l1 q0 q1
      refine ⟨_, m4, c4, ok, ?_⟩
      have hxD : x.isD = true := by
        have := ok.flat
        simp [F_non, F_bl, F_int, F_str, F_tup, F_lst, F_cell, F_fn, F_nil, F_cons] at this
        exact flat_D this
      rw [show n + (d + 1) + 3 = (n + d + 3) + 1 from by omega, r18]
      simp [go, b18, x_k, x_loc, x_glo, x_bin, x_neg, x_not, x_and, x_or, x_cmp, x_cmp2, x_ite, x_nil, x_cons, x_tup, x_lst, x_ix, x_sl, x_call, x_bf, x_isi, x_rng, x_zip, x_comp, x_dget, s_skip, s_seq, s_ex, s_ret, s_asg, s_par, s_ite, s_for, thenS_next, thenS_ret, fin_ret, fin_next, ob_some, obl_bl, bnd_if, lft_if, unl, bnd_ok, bnd_no, lft_some, lft_none, cmpop, truth, e1, asg, PV.lt, vw, hw, hd, e2, mkl, e3, e4, binop, arith, D_non, D_bl, D_int, D_str, D_tup, D_lst, P_non, P_bl, P_int, P_str, P_tup, P_lst, P_nil, P_cons, eqM_d, isIn_t, isIn_l, hxD]
    · by_cases hw4 : w = 4
      · subst hw4
        obtain ⟨r, m2, c2, l0, l1, e2⟩ := roll (n := n + d + 2) (k := 4) c1 (by omega) (by omega)
        refine ⟨_, m2, c2, ok_in l0 l1, ?_⟩
        rw [show n + (d + 1) + 3 = (n + d + 3) + 1 from by omega, r18]
        simp [go, b18, x_k, x_loc, x_glo, x_bin, x_neg, x_not, x_and, x_or, x_cmp, x_cmp2, x_ite, x_nil, x_cons, x_tup, x_lst, x_ix, x_sl, x_call, x_bf, x_isi, x_rng, x_zip, x_comp, x_dget, s_skip, s_seq, s_ex, s_ret, s_asg, s_par, s_ite, s_for, thenS_next, thenS_ret, fin_ret, fin_next, ob_some, obl_bl, bnd_if, lft_if, unl, bnd_ok, bnd_no, lft_some, lft_none, cmpop, truth, e1, asg, PV.lt, vw, hd, e2, D_non, D_bl, D_int, D_str, D_tup, D_lst, P_non, P_bl, P_int, P_str, P_tup, P_lst, P_nil, P_cons, eqM_d, isIn_t, isIn_l, PV.eqv]
      · by_cases hw5 : w = 5
        · subst hw5
          obtain ⟨v, m2, c2, ok, e2⟩ := ih n m1 c1
          refine ⟨_, m2, c2, ok_not ok, ?_⟩
          rw [show n + (d + 1) + 3 = (n + d + 3) + 1 from by omega, r18]
          simp [go, b18, x_k, x_loc, x_glo, x_bin, x_neg, x_not, x_and, x_or, x_cmp, x_cmp2, x_ite, x_nil, x_cons, x_tup, x_lst, x_ix, x_sl, x_call, x_bf, x_isi, x_rng, x_zip, x_comp, x_dget, s_skip, s_seq, s_ex, s_ret, s_asg, s_par, s_ite, s_for, thenS_next, thenS_ret, fin_ret, fin_next, ob_some, obl_bl, bnd_if, lft_if, unl, bnd_ok, bnd_no, lft_some, lft_none, cmpop, truth, e1, asg, PV.lt, vw, hd, e2, D_non, D_bl, D_int, D_str, D_tup, D_lst, P_non, P_bl, P_int, P_str, P_tup, P_lst, P_nil, P_cons, eqM_d, isIn_t, isIn_l, PV.eqv, binop, arith, flat_D ok.flat]
        · obtain ⟨x, m2, c2, hx, e2⟩ := some_ (n := n + d + 1) (l := [.str [97, 110, 100], .str [111, 114]]) c1 (by simp) (by simp)
          obtain ⟨v, m3, c3, ok, e3⟩ := ih n m2 c2
          obtain ⟨u, m4, c4, ok2, e4⟩ := ih n m3 c3
          rcases mem2 hx with rfl | rfl
          · refine ⟨_, m4, c4, ok_two (.inl rfl) ok ok2, ?_⟩
            rw [show n + (d + 1) + 3 = (n + d + 3) + 1 from by omega, r18]
            simp [go, b18, x_k, x_loc, x_glo, x_bin, x_neg, x_not, x_and, x_or, x_cmp, x_cmp2, x_ite, x_nil, x_cons, x_tup, x_lst, x_ix, x_sl, x_call, x_bf, x_isi, x_rng, x_zip, x_comp, x_dget, s_skip, s_seq, s_ex, s_ret, s_asg, s_par, s_ite, s_for, thenS_next, thenS_ret, fin_ret, fin_next, ob_some, obl_bl, bnd_if, lft_if, unl, bnd_ok, bnd_no, lft_some, lft_none, cmpop, truth, e1, asg, PV.lt, vw, hd, hw, hw4, hw5, mkl, e2, e3, e4, D_non, D_bl, D_int, D_str, D_tup, D_lst, P_non, P_bl, P_int, P_str, P_tup, P_lst, P_nil, P_cons, eqM_d, isIn_t, isIn_l, PV.eqv, binop, arith, flat_D ok.flat, flat_D ok2.flat]
          · refine ⟨_, m4, c4, ok_two (.inr rfl) ok ok2, ?_⟩
            rw [show n + (d + 1) + 3 = (n + d + 3) + 1 from by omega, r18]
            simp [go, b18, x_k, x_loc, x_glo, x_bin, x_neg, x_not, x_and, x_or, x_cmp, x_cmp2, x_ite, x_nil, x_cons, x_tup, x_lst, x_ix, x_sl, x_call, x_bf, x_isi, x_rng, x_zip, x_comp, x_dget, s_skip, s_seq, s_ex, s_ret, s_asg, s_par, s_ite, s_for, thenS_next, thenS_ret, fin_ret, fin_next, ob_some, obl_bl, bnd_if, lft_if, unl, bnd_ok, bnd_no, lft_some, lft_none, cmpop, truth, e1, asg, PV.lt, vw, hd, hw, hw4, hw5, mkl, e2, e3, e4, D_non, D_bl, D_int, D_str, D_tup, D_lst, P_non, P_bl, P_int, P_str, P_tup, P_lst, P_nil, P_cons, eqM_d, isIn_t, isIn_l, PV.eqv, binop, arith, flat_D ok.flat, flat_D ok2.flat]
end P00
set_option maxHeartbeats 4000000
namespace P00
open Pv
def NP : Nat → Int
  | 0 => 1
  | d + 1 => 4 + 2 * NP d
structure PolOk (d : Nat) (v : PV) : Prop where
  flat : v.flat = true
  dep : v.dep ≤ d + 2
  wid : wid v ≤ 4
  size : ∃ n t : Int, n ≤ NP d ∧ t ≤ d + 2 ∧ ∀ k, d + 2 ≤ k → psz k v = some (n, t)
theorem NP_pos : ∀ d, 1 ≤ NP d
  | 0 => by simp [NP]
  | d + 1 => by have := NP_pos d; simp [NP]; omega
theorem pok_leaf {d : Nat} {x : PV} (hx : x ∈ [PV.tup [.str [100, 114, 111, 112]], .tup [.str [112, 97, 115, 115]], .tup [.str [112, 97, 115, 115]]]) : PolOk d x := by
  simp only [List.mem_cons, List.not_mem_nil, or_false] at hx
  rcases hx with rfl | rfl | rfl
  all_goals
    refine ⟨by simp [F_non, F_bl, F_int, F_str, F_tup, F_lst, F_cell, F_fn, F_nil, F_cons], by simp [D_non, D_bl, D_int, D_str, D_tup, D_lst, P_non, P_bl, P_int, P_str, P_tup, P_lst, P_nil, P_cons, eqM_d, isIn_t, isIn_l], by simp [W_tup, W_cons, W_nil, P00.wid], 1, 1, NP_pos d, by omega, fun k hk => ?_⟩
    obtain ⟨k, rfl⟩ : ∃ j, k = j + 1 := ⟨k - 1, by omega⟩
    simp [psz]
theorem pok_set {d : Nat} {x : PV} {r : Int} (hx : x ∈ [PV.str [102, 114, 111, 109], .str [116, 111], .str [109, 97, 114, 107]]) (h0 : 0 ≤ r) (h1 : r < 4) : PolOk d (.tup [.str [115, 101, 116], x, .int r]) := by
  have hf : isF x = true ∧ x.flat = true ∧ x.dep = 0 ∧ P00.wid x = 0 := by
    simp only [List.mem_cons, List.not_mem_nil, or_false] at hx
    rcases hx with rfl | rfl | rfl <;> exact ⟨by decide, by simp [F_non, F_bl, F_int, F_str, F_tup, F_lst, F_cell, F_fn, F_nil, F_cons], by simp [D_non, D_bl, D_int, D_str, D_tup, D_lst, P_non, P_bl, P_int, P_str, P_tup, P_lst, P_nil, P_cons, eqM_d, isIn_t, isIn_l], by simp [P00.wid]⟩
  obtain ⟨f1, f2, f3, f4⟩ := hf
  refine ⟨by simp [F_non, F_bl, F_int, F_str, F_tup, F_lst, F_cell, F_fn, F_nil, F_cons, f2], by simp [D_non, D_bl, D_int, D_str, D_tup, D_lst, P_non, P_bl, P_int, P_str, P_tup, P_lst, P_nil, P_cons, eqM_d, isIn_t, isIn_l, f3], by simp [W_tup, W_cons, W_nil, f4, P00.wid], 1, 1, NP_pos d, by omega, fun k hk => ?_⟩
  obtain ⟨k, rfl⟩ : ∃ j, k = j + 1 := ⟨k - 1, by omega⟩
  have e1 : isW (.int r) 0 3 = true := by simp [isW]; omega
  simp [psz, f1, e1]
theorem pok_out {d : Nat} {r : Int} (h0 : 0 ≤ r) (h1 : r < 4) : PolOk d (.tup [.str [111, 117, 116], .int r]) := by
  refine ⟨by simp [F_non, F_bl, F_int, F_str, F_tup, F_lst, F_cell, F_fn, F_nil, F_cons], by simp [D_non, D_bl, D_int, D_str, D_tup, D_lst, P_non, P_bl, P_int, P_str, P_tup, P_lst, P_nil, P_cons, eqM_d, isIn_t, isIn_l], by simp [W_tup, W_cons, W_nil, P00.wid], 1, 1, NP_pos d, by omega, fun k hk => ?_⟩
  obtain ⟨k, rfl⟩ : ∃ j, k = j + 1 := ⟨k - 1, by omega⟩
  have e1 : isW (.int r) 0 3 = true := by simp [isW]; omega
  simp [psz, e1]
theorem pok_two {d : Nat} {s : List Nat} {v w : PV} (hs : s = [116, 104, 101, 110] ∨ s = [98, 111, 116, 104]) (h : PolOk d v) (g : PolOk d w) : PolOk (d + 1) (.tup [.str s, v, w]) := by
  obtain ⟨h1, h2, h3, n, t, h4, h5, h6⟩ := h
  obtain ⟨g1, g2, g3, n2, t2, g4, g5, g6⟩ := g
  refine ⟨by simp [F_non, F_bl, F_int, F_str, F_tup, F_lst, F_cell, F_fn, F_nil, F_cons, h1, g1], by simp [D_non, D_bl, D_int, D_str, D_tup, D_lst, P_non, P_bl, P_int, P_str, P_tup, P_lst, P_nil, P_cons, eqM_d, isIn_t, isIn_l]; omega, by simp [W_tup, W_cons, W_nil, P00.wid]; omega, 1 + (n + n2), 1 + max t t2, by simp [NP]; omega, by omega, fun k hk => ?_⟩
  obtain ⟨k, rfl⟩ : ∃ j, k = j + 1 := ⟨k - 1, by omega⟩
  have hs2 : ¬ (s = [115, 101, 116]) := by rcases hs with rfl | rfl <;> decide
  simp [psz, h6 k (by omega), g6 k (by omega), ov2, hs, hs2]
theorem pok_if {d : Nat} {a v w : PV} (ha : TestOk 1 a) (h : PolOk d v) (g : PolOk d w) : PolOk (d + 1) (.tup [.str [105, 102], a, v, w]) := by
  obtain ⟨a1, a2, a3, n0, t0, a4, a5, a6⟩ := ha
  obtain ⟨h1, h2, h3, n, t, h4, h5, h6⟩ := h
  obtain ⟨g1, g2, g3, n2, t2, g4, g5, g6⟩ := g
  have nb : NB 1 = 3 := by decide
  refine ⟨by simp [F_non, F_bl, F_int, F_str, F_tup, F_lst, F_cell, F_fn, F_nil, F_cons, h1, g1, a1], by simp [D_non, D_bl, D_int, D_str, D_tup, D_lst, P_non, P_bl, P_int, P_str, P_tup, P_lst, P_nil, P_cons, eqM_d, isIn_t, isIn_l]; omega, by simp [W_tup, W_cons, W_nil, P00.wid]; omega, 1 + (n0 + (n + n2)), 1 + max (max t0 t) t2, by simp [NP]; omega, by omega, fun k hk => ?_⟩
  obtain ⟨k, rfl⟩ : ∃ j, k = j + 1 := ⟨k - 1, by omega⟩
  simp [psz, h6 k (by omega), g6 k (by omega), a6 k (by omega), ov3]
theorem pok_at {d : Nat} {x v : PV} (hx : x ∈ [PV.tup [.int 0], .tup [.int 1], .tup [.int 0, .int 1], .tup [.int 1, .int 2], .tup [.int 0, .int 2, .int 3]]) (h : PolOk d v) : PolOk (d + 1) (.tup [.str [97, 116], x, v]) := by
  obtain ⟨h1, h2, h3, n, t, h4, h5, h6⟩ := h
  have hf : swB x = true ∧ x.flat = true ∧ x.dep ≤ 1 ∧ P00.wid x ≤ 3 := by
    simp only [List.mem_cons, List.not_mem_nil, or_false] at hx
    rcases hx with rfl | rfl | rfl | rfl | rfl <;> exact ⟨by decide, by simp [F_non, F_bl, F_int, F_str, F_tup, F_lst, F_cell, F_fn, F_nil, F_cons], by simp [D_non, D_bl, D_int, D_str, D_tup, D_lst, P_non, P_bl, P_int, P_str, P_tup, P_lst, P_nil, P_cons, eqM_d, isIn_t, isIn_l], by simp [W_tup, W_cons, W_nil, P00.wid]⟩
  obtain ⟨f1, f2, f3, f4⟩ := hf
  refine ⟨by simp [F_non, F_bl, F_int, F_str, F_tup, F_lst, F_cell, F_fn, F_nil, F_cons, h1, f2], by simp [D_non, D_bl, D_int, D_str, D_tup, D_lst, P_non, P_bl, P_int, P_str, P_tup, P_lst, P_nil, P_cons, eqM_d, isIn_t, isIn_l]; omega, by simp [W_tup, W_cons, W_nil, P00.wid]; omega, 1 + n, 1 + t, by have := NP_pos d; simp [NP]; omega, by omega, fun k hk => ?_⟩
  obtain ⟨k, rfl⟩ : ∃ j, k = j + 1 := ⟨k - 1, by omega⟩
  simp [psz, h6 k (by omega), ov1, f1]
theorem draw_policy : ∀ (d n : Nat) (m : Mem), CupM m → ∃ v m', CupM m' ∧ PolOk d v ∧ run prg (n + d + 5) 19 [.cell 0, .int d] m = .ok v m' := by
  intro d
  induction d with
  | zero =>
    intro n m c
    obtain ⟨w, m1, c1, w0, w1, e1⟩ := roll (n := n + 3) (k := 4) c (by omega) (by omega)
    by_cases hw : w = 0
    · subst hw
      obtain ⟨x, m2, c2, hx, e2⟩ := some_ (n := n + 2) (l := [PV.tup [.str [100, 114, 111, 112]], .tup [.str [112, 97, 115, 115]], .tup [.str [112, 97, 115, 115]]]) c1 (by simp) (by simp)
      refine ⟨_, m2, c2, pok_leaf hx, ?_⟩
      rw [show n + 0 + 5 = (n + 4) + 1 from rfl, r19]
      simp [go, b19, x_k, x_loc, x_glo, x_bin, x_neg, x_not, x_and, x_or, x_cmp, x_cmp2, x_ite, x_nil, x_cons, x_tup, x_lst, x_ix, x_sl, x_call, x_bf, x_isi, x_rng, x_zip, x_comp, x_dget, s_skip, s_seq, s_ex, s_ret, s_asg, s_par, s_ite, s_for, thenS_next, thenS_ret, fin_ret, fin_next, ob_some, obl_bl, bnd_if, lft_if, unl, bnd_ok, bnd_no, lft_some, lft_none, cmpop, truth, e1, asg, D_non, D_bl, D_int, D_str, D_tup, D_lst, P_non, P_bl, P_int, P_str, P_tup, P_lst, P_nil, P_cons, eqM_d, isIn_t, isIn_l, PV.eqv, mkl, e2]
    · by_cases hw2 : w = 1
      · subst hw2
        obtain ⟨x, m2, c2, hx, e2⟩ := some_ (n := n + 2) (l := [.str [102, 114, 111, 109], .str [116, 111], .str [109, 97, 114, 107]]) c1 (by simp) (by simp)
        obtain ⟨r, m3, c3, q0, q1, e3⟩ := roll (n := n + 3) (k := 4) c2 (by omega) (by omega)
        have ok := pok_set (d := 0) hx q0 q1
        have hxD : x.isD = true := by
          have := ok.flat
          simp [F_non, F_bl, F_int, F_str, F_tup, F_lst, F_cell, F_fn, F_nil, F_cons] at this
          exact flat_D this
        refine ⟨_, m3, c3, ok, ?_⟩
        rw [show n + 0 + 5 = (n + 4) + 1 from rfl, r19]
        simp [go, b19, x_k, x_loc, x_glo, x_bin, x_neg, x_not, x_and, x_or, x_cmp, x_cmp2, x_ite, x_nil, x_cons, x_tup, x_lst, x_ix, x_sl, x_call, x_bf, x_isi, x_rng, x_zip, x_comp, x_dget, s_skip, s_seq, s_ex, s_ret, s_asg, s_par, s_ite, s_for, thenS_next, thenS_ret, fin_ret, fin_next, ob_some, obl_bl, bnd_if, lft_if, unl, bnd_ok, bnd_no, lft_some, lft_none, cmpop, truth, e1, asg, D_non, D_bl, D_int, D_str, D_tup, D_lst, P_non, P_bl, P_int, P_str, P_tup, P_lst, P_nil, P_cons, eqM_d, isIn_t, isIn_l, PV.eqv, mkl, e2, e3, hxD]
      · obtain ⟨r, m3, c3, q0, q1, e3⟩ := roll (n := n + 3) (k := 4) c1 (by omega) (by omega)
        refine ⟨_, m3, c3, pok_out q0 q1, ?_⟩
        rw [show n + 0 + 5 = (n + 4) + 1 from rfl, r19]
        simp [go, b19, x_k, x_loc, x_glo, x_bin, x_neg, x_not, x_and, x_or, x_cmp, x_cmp2, x_ite, x_nil, x_cons, x_tup, x_lst, x_ix, x_sl, x_call, x_bf, x_isi, x_rng, x_zip, x_comp, x_dget, s_skip, s_seq, s_ex, s_ret, s_asg, s_par, s_ite, s_for, thenS_next, thenS_ret, fin_ret, fin_next, ob_some, obl_bl, bnd_if, lft_if, unl, bnd_ok, bnd_no, lft_some, lft_none, cmpop, truth, e1, asg, D_non, D_bl, D_int, D_str, D_tup, D_lst, P_non, P_bl, P_int, P_str, P_tup, P_lst, P_nil, P_cons, eqM_d, isIn_t, isIn_l, PV.eqv, mkl, e3, hw, hw2, PV.lt, vw, w1]
  | succ d ih =>
    intro n m c
    have hd : (0 : Int) < (d : Int) + 1 := by omega
    obtain ⟨w, m1, c1, w0, w1, e1⟩ := roll (n := n + d + 4) (k := 9) c (by omega) (by omega)
    by_cases hw : w = 0
    · subst hw
      obtain ⟨x, m2, c2, hx, e2⟩ := some_ (n := n + d + 3) (l := [PV.tup [.str [100, 114, 111, 112]], .tup [.str [112, 97, 115, 115]], .tup [.str [112, 97, 115, 115]]]) c1 (by simp) (by simp)
      refine ⟨_, m2, c2, pok_leaf hx, ?_⟩
      rw [show n + (d + 1) + 5 = (n + d + 5) + 1 from by omega, r19]
      simp [go, b19, x_k, x_loc, x_glo, x_bin, x_neg, x_not, x_and, x_or, x_cmp, x_cmp2, x_ite, x_nil, x_cons, x_tup, x_lst, x_ix, x_sl, x_call, x_bf, x_isi, x_rng, x_zip, x_comp, x_dget, s_skip, s_seq, s_ex, s_ret, s_asg, s_par, s_ite, s_for, thenS_next, thenS_ret, fin_ret, fin_next, ob_some, obl_bl, bnd_if, lft_if, unl, bnd_ok, bnd_no, lft_some, lft_none, cmpop, truth, e1, asg, D_non, D_bl, D_int, D_str, D_tup, D_lst, P_non, P_bl, P_int, P_str, P_tup, P_lst, P_nil, P_cons, eqM_d, isIn_t, isIn_l, PV.eqv, mkl, e2, hd]
    · by_cases hw2 : w = 1
      · subst hw2
        obtain ⟨x, m2, c2, hx, e2⟩ := some_ (n := n + d + 3) (l := [.str [102, 114, 111, 109], .str [116, 111], .str [109, 97, 114, 107]]) c1 (by simp) (by simp)
        obtain ⟨r, m3, c3, q0, q1, e3⟩ := roll (n := n + d + 4) (k := 4) c2 (by omega) (by omega)
        have ok := pok_set (d := d + 1) hx q0 q1
        have hxD : x.isD = true := by
          have := ok.flat
          simp [F_non, F_bl, F_int, F_str, F_tup, F_lst, F_cell, F_fn, F_nil, F_cons] at this
          exact flat_D this
        refine ⟨_, m3, c3, ok, ?_⟩
        rw [show n + (d + 1) + 5 = (n + d + 5) + 1 from by omega, r19]
        simp [go, b19, x_k, x_loc, x_glo, x_bin, x_neg, x_not, x_and, x_or, x_cmp, x_cmp2, x_ite, x_nil, x_cons, x_tup, x_lst, x_ix, x_sl, x_call, x_bf, x_isi, x_rng, x_zip, x_comp, x_dget, s_skip, s_seq, s_ex, s_ret, s_asg, s_par, s_ite, s_for, thenS_next, thenS_ret, fin_ret, fin_next, ob_some, obl_bl, bnd_if, lft_if, unl, bnd_ok, bnd_no, lft_some, lft_none, cmpop, truth, e1, asg, D_non, D_bl, D_int, D_str, D_tup, D_lst, P_non, P_bl, P_int, P_str, P_tup, P_lst, P_nil, P_cons, eqM_d, isIn_t, isIn_l, PV.eqv, mkl, e2, e3, hxD, hd]
      · by_cases hw3 : w < 4
        · obtain ⟨r, m3, c3, q0, q1, e3⟩ := roll (n := n + d + 4) (k := 4) c1 (by omega) (by omega)
          refine ⟨_, m3, c3, pok_out q0 q1, ?_⟩
          rw [show n + (d + 1) + 5 = (n + d + 5) + 1 from by omega, r19]
          simp [go, b19, x_k, x_loc, x_glo, x_bin, x_neg, x_not, x_and, x_or, x_cmp, x_cmp2, x_ite, x_nil, x_cons, x_tup, x_lst, x_ix, x_sl, x_call, x_bf, x_isi, x_rng, x_zip, x_comp, x_dget, s_skip, s_seq, s_ex, s_ret, s_asg, s_par, s_ite, s_for, thenS_next, thenS_ret, fin_ret, fin_next, ob_some, obl_bl, bnd_if, lft_if, unl, bnd_ok, bnd_no, lft_some, lft_none, cmpop, truth, e1, asg, D_non, D_bl, D_int, D_str, D_tup, D_lst, P_non, P_bl, P_int, P_str, P_tup, P_lst, P_nil, P_cons, eqM_d, isIn_t, isIn_l, PV.eqv, mkl, e3, hw, hw2, PV.lt, vw, hw3, hd]
        · by_cases hw8 : w = 8
          · subst hw8
            obtain ⟨x, m2, c2, hx, e2⟩ := some_ (n := n + d + 3) (l := [PV.tup [.int 0], .tup [.int 1], .tup [.int 0, .int 1], .tup [.int 1, .int 2], .tup [.int 0, .int 2, .int 3]]) c1 (by simp) (by simp)
            obtain ⟨v, m3, c3, ok, e3⟩ := ih n m2 c2
            have ok2 := pok_at hx ok
            have hxD : x.isD = true := by
              have := ok2.flat
              simp [F_non, F_bl, F_int, F_str, F_tup, F_lst, F_cell, F_fn, F_nil, F_cons] at this
              exact flat_D this.1
            refine ⟨_, m3, c3, ok2, ?_⟩
            rw [show n + (d + 1) + 5 = (n + d + 5) + 1 from by omega, r19]
            simp [go, b19, x_k, x_loc, x_glo, x_bin, x_neg, x_not, x_and, x_or, x_cmp, x_cmp2, x_ite, x_nil, x_cons, x_tup, x_lst, x_ix, x_sl, x_call, x_bf, x_isi, x_rng, x_zip, x_comp, x_dget, s_skip, s_seq, s_ex, s_ret, s_asg, s_par, s_ite, s_for, thenS_next, thenS_ret, fin_ret, fin_next, ob_some, obl_bl, bnd_if, lft_if, unl, bnd_ok, bnd_no, lft_some, lft_none, cmpop, truth, e1, asg, D_non, D_bl, D_int, D_str, D_tup, D_lst, P_non, P_bl, P_int, P_str, P_tup, P_lst, P_nil, P_cons, eqM_d, isIn_t, isIn_l, PV.eqv, mkl, e2, e3, PV.lt, vw, hd, hxD, binop, arith, flat_D ok.flat]
          · by_cases hw7 : w = 7
            · subst hw7
              obtain ⟨a, m2, c2, oa, e2⟩ := draw_test 1 (n + d + 1) m1 c1
              obtain ⟨v, m3, c3, ok, e3⟩ := ih n m2 c2
              obtain ⟨u, m4, c4, ok2, e4⟩ := ih n m3 c3
              refine ⟨_, m4, c4, pok_if oa ok ok2, ?_⟩
              rw [show n + (d + 1) + 5 = (n + d + 5) + 1 from by omega, r19]
              have e2' : run prg (n + d + 5) 18 [.cell 0, .int 1, .bl true] m1 = .ok a m2 := e2
              simp [go, b19, x_k, x_loc, x_glo, x_bin, x_neg, x_not, x_and, x_or, x_cmp, x_cmp2, x_ite, x_nil, x_cons, x_tup, x_lst, x_ix, x_sl, x_call, x_bf, x_isi, x_rng, x_zip, x_comp, x_dget, s_skip, s_seq, s_ex, s_ret, s_asg, s_par, s_ite, s_for, thenS_next, thenS_ret, fin_ret, fin_next, ob_some, obl_bl, bnd_if, lft_if, unl, bnd_ok, bnd_no, lft_some, lft_none, cmpop, truth, e1, asg, D_non, D_bl, D_int, D_str, D_tup, D_lst, P_non, P_bl, P_int, P_str, P_tup, P_lst, P_nil, P_cons, eqM_d, isIn_t, isIn_l, PV.eqv, mkl, e2', e3, e4, PV.lt, vw, hd, binop, arith, flat_D oa.flat, flat_D ok.flat, flat_D ok2.flat]
            · obtain ⟨v, m3, c3, ok, e3⟩ := ih n m1 c1
              obtain ⟨u, m4, c4, ok2, e4⟩ := ih n m3 c3
              by_cases hw6 : w = 6
              · subst hw6
                refine ⟨_, m4, c4, pok_two (.inr rfl) ok ok2, ?_⟩
                rw [show n + (d + 1) + 5 = (n + d + 5) + 1 from by omega, r19]
                simp [go, b19, x_k, x_loc, x_glo, x_bin, x_neg, x_not, x_and, x_or, x_cmp, x_cmp2, x_ite, x_nil, x_cons, x_tup, x_lst, x_ix, x_sl, x_call, x_bf, x_isi, x_rng, x_zip, x_comp, x_dget, s_skip, s_seq, s_ex, s_ret, s_asg, s_par, s_ite, s_for, thenS_next, thenS_ret, fin_ret, fin_next, ob_some, obl_bl, bnd_if, lft_if, unl, bnd_ok, bnd_no, lft_some, lft_none, cmpop, truth, e1, asg, D_non, D_bl, D_int, D_str, D_tup, D_lst, P_non, P_bl, P_int, P_str, P_tup, P_lst, P_nil, P_cons, eqM_d, isIn_t, isIn_l, PV.eqv, mkl, e3, e4, PV.lt, vw, hd, binop, arith, flat_D ok.flat, flat_D ok2.flat]
              · have hw5 : w < 6 := by omega
                refine ⟨_, m4, c4, pok_two (.inl rfl) ok ok2, ?_⟩
                rw [show n + (d + 1) + 5 = (n + d + 5) + 1 from by omega, r19]
                simp [go, b19, x_k, x_loc, x_glo, x_bin, x_neg, x_not, x_and, x_or, x_cmp, x_cmp2, x_ite, x_nil, x_cons, x_tup, x_lst, x_ix, x_sl, x_call, x_bf, x_isi, x_rng, x_zip, x_comp, x_dget, s_skip, s_seq, s_ex, s_ret, s_asg, s_par, s_ite, s_for, thenS_next, thenS_ret, fin_ret, fin_next, ob_some, obl_bl, bnd_if, lft_if, unl, bnd_ok, bnd_no, lft_some, lft_none, cmpop, truth, e1, asg, D_non, D_bl, D_int, D_str, D_tup, D_lst, P_non, P_bl, P_int, P_str, P_tup, P_lst, P_nil, P_cons, eqM_d, isIn_t, isIn_l, PV.eqv, mkl, e3, e4, PV.lt, vw, hd, hw, hw2, hw3, hw5, binop, arith, flat_D ok.flat, flat_D ok2.flat]
end P00
set_option maxHeartbeats 4000000
namespace P00
open Pv
theorem r25 (n : Nat) (a b : PV) (m : Mem) : run prg (n + 1) 25 [a, b] m = go b25 2 5 n [a, b] m := rfl
theorem flatAll_iff : ∀ {l : List PV}, flatAll l = true ↔ ∀ x ∈ l, x.flat = true
  | [] => by simp [F_nil]
  | x :: l => by simp [F_cons, flatAll_iff (l := l)]
theorem depAll_iff {k : Nat} : ∀ {l : List PV}, depAll l ≤ k ↔ ∀ x ∈ l, x.dep ≤ k
  | [] => by simp [P_nil]
  | x :: l => by simp [P_cons, ← depAll_iff (l := l)]; omega
theorem widAll_iff {k : Nat} : ∀ {l : List PV}, widAll l ≤ k ↔ ∀ x ∈ l, wid x ≤ k
  | [] => by simp [W_nil]
  | x :: l => by simp [W_cons, ← widAll_iff (l := l)]; omega
theorem cut_mem {l : List PV} {a b : Option Int} {x : PV} (h : x ∈ cut l a b) : x ∈ l := List.mem_of_mem_drop (List.mem_of_mem_take h)
theorem cut_len {l : List PV} {a b : Option Int} : (cut l a b).length ≤ l.length := by
  unfold cut
  rw [List.length_take, List.length_drop]
  omega
def odds : List PV := [.non, .tup [], .int 0, .int 3, .int 4, .int (-1), .bl true, .str [102, 114, 111, 109], .str [116, 111], .str [115, 105, 122, 101], .str [], .tup [.str [97, 110, 121]], .tup [.str [100, 114, 111, 112]], .tup [.str [112, 97, 115, 115]], .tup [.str [111, 117, 116], .int 4], .tup [.str [115, 101, 116], .str [116, 111], .int 3], .tup [.str [105, 110], .int 4], .lst [.int 0], .tup [.int 0, .int 1], .tup [.int 1, .int 0]]
theorem odds_all : (odds.all fun x => x.flat && decide (x.dep ≤ 1) && decide (wid x ≤ 3)) = true := by decide +kernel
theorem odd_item {x : PV} (h : x ∈ odds) : x.flat = true ∧ x.dep ≤ 1 ∧ wid x ≤ 3 := by
  have := List.all_eq_true.mp odds_all x h
  simpa [and_assoc] using this
theorem small_of {i : Int} (h0 : 0 ≤ i) (h1 : i ≤ 1000) : small i = true := by
  simp [small]; omega
structure Odd (D : Nat) (v x : PV) : Prop where
  flat : x.flat = true
  dep : x.dep ≤ D + 1
  wid : wid x ≤ 3 * wid v + 3
theorem odd_of {D : Nat} {v x : PV} (h : x ∈ odds) : Odd D v x := by
  obtain ⟨h1, h2, h3⟩ := odd_item h
  exact ⟨h1, by omega, by omega⟩
theorem spoilt_no {n : Nat} {v : PV} {m : Mem} (hv : v.flat = true) (hn : ∀ l, v ≠ .tup l) (c : CupM m) {D : Nat} : ∃ x m', CupM m' ∧ Odd D v x ∧ run prg (n + 3) 25 [.cell 0, v] m = .ok x m' := by
  obtain ⟨x, m1, c1, hx, e1⟩ := some_ (n := n) (l := odds) c (by simp [odds]) (by simp [odds])
  refine ⟨x, m1, c1, odd_of hx, ?_⟩
  rw [show n + 3 = (n + 2) + 1 from rfl, r25]
  unfold odds at e1
  cases v <;> first | (simp [F_non, F_bl, F_int, F_str, F_tup, F_lst, F_cell, F_fn, F_nil, F_cons] at hv; done) | (exact absurd rfl (hn _)) | simp [go, b25, x_k, x_loc, x_glo, x_bin, x_neg, x_not, x_and, x_or, x_cmp, x_cmp2, x_ite, x_nil, x_cons, x_tup, x_lst, x_ix, x_sl, x_call, x_bf, x_isi, x_rng, x_zip, x_comp, x_dget, s_skip, s_seq, s_ex, s_ret, s_asg, s_par, s_ite, s_for, thenS_next, thenS_ret, fin_ret, fin_next, ob_some, obl_bl, bnd_if, lft_if, unl, bnd_ok, bnd_no, lft_some, lft_none, isTy, truth, D_non, D_bl, D_int, D_str, D_tup, D_lst, P_non, P_bl, P_int, P_str, P_tup, P_lst, P_nil, P_cons, eqM_d, isIn_t, isIn_l, asg, mkl, e1]
theorem spoilt : ∀ (D n : Nat) (v : PV) (m : Mem), v.flat = true → v.dep ≤ D → wid v ≤ 60 → CupM m → ∃ x m', CupM m' ∧ Odd D v x ∧ run prg (n + D + 3) 25 [.cell 0, v] m = .ok x m' := by
  intro D
  induction D with
  | zero =>
    intro n v m hv hd hw c
    refine spoilt_no (n := n) hv (fun l e => ?_) c
    subst e
    simp [D_non, D_bl, D_int, D_str, D_tup, D_lst, P_non, P_bl, P_int, P_str, P_tup, P_lst, P_nil, P_cons, eqM_d, isIn_t, isIn_l] at hd
  | succ D ih =>
    intro n v m hv hd hw c
    by_cases ht : ∃ l, v = .tup l
    · obtain ⟨l, rfl⟩ := ht
      simp only [F_tup] at hv
      simp only [P_tup] at hd
      simp only [W_tup] at hw
      by_cases hl : l = []
      · subst hl
        obtain ⟨x, m1, c1, hx, e1⟩ := some_ (n := n + D + 1) (l := odds) c (by simp [odds]) (by simp [odds])
        refine ⟨x, m1, c1, odd_of hx, ?_⟩
        rw [show n + (D + 1) + 3 = (n + D + 3) + 1 from by omega, r25]
        unfold odds at e1
        simp [go, b25, x_k, x_loc, x_glo, x_bin, x_neg, x_not, x_and, x_or, x_cmp, x_cmp2, x_ite, x_nil, x_cons, x_tup, x_lst, x_ix, x_sl, x_call, x_bf, x_isi, x_rng, x_zip, x_comp, x_dget, s_skip, s_seq, s_ex, s_ret, s_asg, s_par, s_ite, s_for, thenS_next, thenS_ret, fin_ret, fin_next, ob_some, obl_bl, bnd_if, lft_if, unl, bnd_ok, bnd_no, lft_some, lft_none, isTy, truth, D_non, D_bl, D_int, D_str, D_tup, D_lst, P_non, P_bl, P_int, P_str, P_tup, P_lst, P_nil, P_cons, eqM_d, isIn_t, isIn_l, asg, mkl, e1, cmpop, PV.eqv, eqvAll]
      · obtain ⟨r, m1, c1, q0, q1, e1⟩ := roll (n := n + D + 2) (k := 6) c (by omega) (by omega)
        by_cases hr : r = 0
        · subst hr
          obtain ⟨x, m2, c2, hx, e2⟩ := some_ (n := n + D + 1) (l := odds) c1 (by simp [odds]) (by simp [odds])
          refine ⟨x, m2, c2, odd_of hx, ?_⟩
          rw [show n + (D + 1) + 3 = (n + D + 3) + 1 from by omega, r25]
          unfold odds at e2
          simp [go, b25, x_k, x_loc, x_glo, x_bin, x_neg, x_not, x_and, x_or, x_cmp, x_cmp2, x_ite, x_nil, x_cons, x_tup, x_lst, x_ix, x_sl, x_call, x_bf, x_isi, x_rng, x_zip, x_comp, x_dget, s_skip, s_seq, s_ex, s_ret, s_asg, s_par, s_ite, s_for, thenS_next, thenS_ret, fin_ret, fin_next, ob_some, obl_bl, bnd_if, lft_if, unl, bnd_ok, bnd_no, lft_some, lft_none, isTy, truth, D_non, D_bl, D_int, D_str, D_tup, D_lst, P_non, P_bl, P_int, P_str, P_tup, P_lst, P_nil, P_cons, eqM_d, isIn_t, isIn_l, asg, mkl, e1, e2, cmpop, PV.eqv, eqvAll_nil, hl]
        · have hpos : 1 ≤ l.length := by
            cases l with
            | nil => exact absurd rfl hl
            | cons _ _ => simp
          have hlen : l.length ≤ 60 := by omega
          obtain ⟨i, m2, c2, i0, i1, e2⟩ := roll (n := n + D + 2) (k := (l.length : Int)) c1 (by omega) (by omega)
          obtain ⟨w, m3, c3, w0, w1, e3⟩ := roll (n := n + D + 2) (k := 9) c2 (by omega) (by omega)
          have s1 := small_of i0 (by omega)
          have fl := flatAll_iff.mp hv
          have dl := depAll_iff.mp (show depAll l ≤ D by omega)
          have wl := widAll_iff.mp (show widAll l ≤ max l.length (widAll l) from Nat.le_max_right _ _)
          have bigE : (180 : Nat) ≤ big := by decide
          have k1 := cut_len (l := l) (a := none) (b := some i)
          have mk : ∀ ys : List PV, (∀ y ∈ ys, y ∈ l) → ys.length ≤ 3 * l.length → Odd (D + 1) (.tup l) (.tup ys) := fun ys hy hn => by
            refine ⟨by rw [F_tup]; exact flatAll_iff.mpr fun y hy' => fl y (hy y hy'), by
              rw [P_tup]
              have := depAll_iff.mpr fun y hy' => dl y (hy y hy')
              omega, by
              rw [W_tup, W_tup]
              have := widAll_iff.mpr fun y hy' => wl y (hy y hy')
              omega⟩
          by_cases hw0 : w = 0
          · subst hw0
            have k2 := cut_len (l := l) (a := some i) (b := none)
            have k3 := cut_len (l := l) (a := some i) (b := some (i + 1))
            have s2 := small_of (i := i + 1) (by omega) (by omega)
            refine ⟨.tup (cut l none (some i) ++ cut l (some i) none ++ cut l (some i) (some (i + 1))), m3, c3, mk _ (fun y hy => ?_) ?_, ?_⟩
            · simp only [List.mem_append] at hy
              rcases hy with (hy | hy) | hy <;> exact cut_mem hy
            · simp only [List.length_append]; omega
            · rw [show n + (D + 1) + 3 = (n + D + 3) + 1 from by omega, r25]
              have b1 : (cut l none (some i)).length + (cut l (some i) none).length ≤ big := by omega
              have b2 : (cut l none (some i)).length + (cut l (some i) none).length + (cut l (some i) (some (i + 1))).length ≤ big := by omega
              simp [go, b25, x_k, x_loc, x_glo, x_bin, x_neg, x_not, x_and, x_or, x_cmp, x_cmp2, x_ite, x_nil, x_cons, x_tup, x_lst, x_ix, x_sl, x_call, x_bf, x_isi, x_rng, x_zip, x_comp, x_dget, s_skip, s_seq, s_ex, s_ret, s_asg, s_par, s_ite, s_for, thenS_next, thenS_ret, fin_ret, fin_next, ob_some, obl_bl, bnd_if, lft_if, unl, bnd_ok, bnd_no, lft_some, lft_none, isTy, truth, D_non, D_bl, D_int, D_str, D_tup, D_lst, P_non, P_bl, P_int, P_str, P_tup, P_lst, P_nil, P_cons, eqM_d, isIn_t, isIn_l, asg, mkl, e1, e2, e3, cmpop, PV.eqv, eqvAll_nil, hl, hr, callB, vw, PV.lt, slice, optI, s1, s2, binop, arith, b1, b2]
          · by_cases hw1 : w = 1
            · subst hw1
              have k2 := cut_len (l := l) (a := some (i + 1)) (b := none)
              have s2 := small_of (i := i + 1) (by omega) (by omega)
              refine ⟨.tup (cut l none (some i) ++ cut l (some (i + 1)) none), m3, c3, mk _ (fun y hy => ?_) ?_, ?_⟩
              · simp only [List.mem_append] at hy
                rcases hy with hy | hy <;> exact cut_mem hy
              · simp only [List.length_append]; omega
              · rw [show n + (D + 1) + 3 = (n + D + 3) + 1 from by omega, r25]
                have b1 : (cut l none (some i)).length + (cut l (some (i + 1)) none).length ≤ big := by omega
                simp [go, b25, x_k, x_loc, x_glo, x_bin, x_neg, x_not, x_and, x_or, x_cmp, x_cmp2, x_ite, x_nil, x_cons, x_tup, x_lst, x_ix, x_sl, x_call, x_bf, x_isi, x_rng, x_zip, x_comp, x_dget, s_skip, s_seq, s_ex, s_ret, s_asg, s_par, s_ite, s_for, thenS_next, thenS_ret, fin_ret, fin_next, ob_some, obl_bl, bnd_if, lft_if, unl, bnd_ok, bnd_no, lft_some, lft_none, isTy, truth, D_non, D_bl, D_int, D_str, D_tup, D_lst, P_non, P_bl, P_int, P_str, P_tup, P_lst, P_nil, P_cons, eqM_d, isIn_t, isIn_l, asg, mkl, e1, e2, e3, cmpop, PV.eqv, eqvAll_nil, hl, hr, callB, vw, PV.lt, slice, optI, s1, s2, binop, arith, b1]
            · by_cases hw2 : w = 2
              · subst hw2
                refine ⟨.lst l, m3, c3, ⟨by rw [F_lst]; exact hv, by rw [P_lst]; omega, by simp only [P00.wid, W_tup]; omega⟩, ?_⟩
                rw [show n + (D + 1) + 3 = (n + D + 3) + 1 from by omega, r25]
                have hDe : (∀ (x : PV), x ∈ l → x.isD = true) = True := eq_true fun x hx => flat_D (fl x hx)
                simp [go, b25, x_k, x_loc, x_glo, x_bin, x_neg, x_not, x_and, x_or, x_cmp, x_cmp2, x_ite, x_nil, x_cons, x_tup, x_lst, x_ix, x_sl, x_call, x_bf, x_isi, x_rng, x_zip, x_comp, x_dget, s_skip, s_seq, s_ex, s_ret, s_asg, s_par, s_ite, s_for, thenS_next, thenS_ret, fin_ret, fin_next, ob_some, obl_bl, bnd_if, lft_if, unl, bnd_ok, bnd_no, lft_some, lft_none, isTy, truth, D_non, D_bl, D_int, D_str, D_tup, D_lst, P_non, P_bl, P_int, P_str, P_tup, P_lst, P_nil, P_cons, eqM_d, isIn_t, isIn_l, asg, mkl, e1, e2, e3, cmpop, PV.eqv, eqvAll_nil, hl, hr, callB, vw, PV.lt, hDe]
              · have hi : i.toNat < l.length := by omega
                obtain ⟨y, m4, c4, oy, e4⟩ := ih n (l[i.toNat]) m3 (fl _ (List.getElem_mem hi)) (dl _ (List.getElem_mem hi)) (Nat.le_trans (wl _ (List.getElem_mem hi)) hw) c3
                have k2 := cut_len (l := l) (a := some (i + 1)) (b := none)
                have s2 := small_of (i := i + 1) (by omega) (by omega)
                have hw3 : ¬ (w < 2) := by omega
                refine ⟨.tup (cut l none (some i) ++ [y] ++ cut l (some (i + 1)) none), m4, c4, ⟨?_, ?_, ?_⟩, ?_⟩
                · rw [F_tup]
                  refine flatAll_iff.mpr fun z hz => ?_
                  simp only [List.mem_append, List.mem_singleton] at hz
                  rcases hz with (hz | rfl) | hz
                  · exact fl z (cut_mem hz)
                  · exact oy.flat
                  · exact fl z (cut_mem hz)
                · rw [P_tup]
                  have : depAll (cut l none (some i) ++ [y] ++ cut l (some (i + 1)) none) ≤ D + 1 := by
                    refine depAll_iff.mpr fun z hz => ?_
                    simp only [List.mem_append, List.mem_singleton] at hz
                    rcases hz with (hz | rfl) | hz
                    · have := dl z (cut_mem hz); omega
                    · exact oy.dep
                    · have := dl z (cut_mem hz); omega
                  omega
                · have hch := wl _ (List.getElem_mem hi)
                  have : widAll (cut l none (some i) ++ [y] ++ cut l (some (i + 1)) none) ≤ 3 * max l.length (widAll l) + 3 := by
                    refine widAll_iff.mpr fun z hz => ?_
                    simp only [List.mem_append, List.mem_singleton] at hz
                    rcases hz with (hz | rfl) | hz
                    · have := wl z (cut_mem hz); omega
                    · have := oy.wid; omega
                    · have := wl z (cut_mem hz); omega
                  rw [W_tup, W_tup]
                  simp only [List.length_append, List.length_singleton]
                  omega
                · rw [show n + (D + 1) + 3 = (n + D + 3) + 1 from by omega, r25]
                  have b1 : (cut l none (some i)).length + 1 ≤ big := by omega
                  have b2 : (cut l none (some i)).length + 1 + (cut l (some (i + 1)) none).length ≤ big := by omega
                  simp [go, b25, x_k, x_loc, x_glo, x_bin, x_neg, x_not, x_and, x_or, x_cmp, x_cmp2, x_ite, x_nil, x_cons, x_tup, x_lst, x_ix, x_sl, x_call, x_bf, x_isi, x_rng, x_zip, x_comp, x_dget, s_skip, s_seq, s_ex, s_ret, s_asg, s_par, s_ite, s_for, thenS_next, thenS_ret, fin_ret, fin_next, ob_some, obl_bl, bnd_if, lft_if, unl, bnd_ok, bnd_no, lft_some, lft_none, isTy, truth, D_non, D_bl, D_int, D_str, D_tup, D_lst, P_non, P_bl, P_int, P_str, P_tup, P_lst, P_nil, P_cons, eqM_d, isIn_t, isIn_l, asg, mkl, e1, e2, e3, cmpop, PV.eqv, eqvAll_nil, hl, hr, callB, vw, PV.lt, slice, optI, s1, s2, binop, arith, b1, b2, hw2, hw3, item, atI, i0, i1, hi, e4, flat_D oy.flat]
    · obtain ⟨x, m', c', o, e⟩ := spoilt_no (n := n + D + 1) (D := D + 1) hv (fun l e => ht ⟨l, e⟩) c
      exact ⟨x, m', c', o, by rw [show n + (D + 1) + 3 = n + D + 1 + 3 from by omega]; exact e⟩
end P00
set_option maxHeartbeats 4000000
namespace P00
open Pv
theorem r11 (n : Nat) (a : PV) (m : Mem) : run prg (n + 1) 11 [a] m = go b11 1 1 n [a] m := rfl
theorem r12 (n : Nat) (a : PV) (m : Mem) : run prg (n + 1) 12 [a] m = go b12 1 1 n [a] m := rfl
theorem r13 (n : Nat) (a : PV) (m : Mem) : run prg (n + 1) 13 [a] m = go b13 1 1 n [a] m := rfl
theorem r14 (n : Nat) (a : PV) (m : Mem) : run prg (n + 1) 14 [a] m = go b14 1 1 n [a] m := rfl
theorem is_test {n : Nat} {v : PV} {m : Mem} (hv : v.flat = true) : run prg (n + 17) 13 [v] m = .ok (.bl (decide (0 ≤ tl 12 v 60))) m := by
  have e : run prg (n + 15) 6 [v, .int 12, .int 60] m = .ok (.int (tl 12 v 60)) m := test_left 12 n v 60 m hv
  rw [show n + 17 = (n + 16) + 1 from rfl, r13]
  simp only [go, b13, x_k, x_loc, x_glo, x_bin, x_neg, x_not, x_and, x_or, x_cmp, x_cmp2, x_ite, x_nil, x_cons, x_tup, x_lst, x_ix, x_sl, x_call, x_bf, x_isi, x_rng, x_zip, x_comp, x_dget, s_skip, s_seq, s_ex, s_ret, s_asg, s_par, s_ite, s_for, thenS_next, thenS_ret, fin_ret, fin_next, ob_some, obl_bl, bnd_if, lft_if, unl, bnd_ok, bnd_no, lft_some, lft_none]
  rw [show n + 16 = (n + 15) + 1 from rfl]
  simp [x_k, x_loc, x_glo, x_bin, x_neg, x_not, x_and, x_or, x_cmp, x_cmp2, x_ite, x_nil, x_cons, x_tup, x_lst, x_ix, x_sl, x_call, x_bf, x_isi, x_rng, x_zip, x_comp, x_dget, s_skip, s_seq, s_ex, s_ret, s_asg, s_par, s_ite, s_for, thenS_next, thenS_ret, fin_ret, fin_next, ob_some, obl_bl, bnd_if, lft_if, unl, bnd_ok, bnd_no, lft_some, lft_none, r11, go, b11, con4, con5, e, cmpop]
theorem is_policy {n : Nat} {v : PV} {m : Mem} (hv : v.flat = true) : run prg (n + 18) 14 [v] m = .ok (.bl (decide (0 ≤ pl 12 v 60))) m := by
  have e : run prg (n + 16) 10 [v, .int 12, .int 60] m = .ok (.int (pl 12 v 60)) m := policy_left 12 n v 60 m hv
  rw [show n + 18 = (n + 17) + 1 from rfl, r14]
  simp only [go, b14, x_k, x_loc, x_glo, x_bin, x_neg, x_not, x_and, x_or, x_cmp, x_cmp2, x_ite, x_nil, x_cons, x_tup, x_lst, x_ix, x_sl, x_call, x_bf, x_isi, x_rng, x_zip, x_comp, x_dget, s_skip, s_seq, s_ex, s_ret, s_asg, s_par, s_ite, s_for, thenS_next, thenS_ret, fin_ret, fin_next, ob_some, obl_bl, bnd_if, lft_if, unl, bnd_ok, bnd_no, lft_some, lft_none]
  rw [show n + 17 = (n + 16) + 1 from rfl]
  simp [x_k, x_loc, x_glo, x_bin, x_neg, x_not, x_and, x_or, x_cmp, x_cmp2, x_ite, x_nil, x_cons, x_tup, x_lst, x_ix, x_sl, x_call, x_bf, x_isi, x_rng, x_zip, x_comp, x_dget, s_skip, s_seq, s_ex, s_ret, s_asg, s_par, s_ite, s_for, thenS_next, thenS_ret, fin_ret, fin_next, ob_some, obl_bl, bnd_if, lft_if, unl, bnd_ok, bnd_no, lft_some, lft_none, r12, go, b12, con4, con5, e, cmpop]
theorem fits_t {v : PV} (hd : v.dep ≤ 6) : decide (0 ≤ tl 12 v 60) = letB (tsz 7 v) := fit_let (tl_fit 7 v 12 60 (by omega) (by omega))
theorem fits_p {v : PV} (hd : v.dep ≤ 6) : decide (0 ≤ pl 12 v 60) = letB (psz 7 v) := fit_let (pl_fit 7 v 12 60 (by omega) (by omega))
def lbody : S := match b27 with
  | .seq _ (.seq (.for_ _ _ b) _) => b
  | _ => .skip
def obody : S := match lbody with
  | .seq _ (.seq _ (.for_ _ _ b)) => b
  | _ => .skip
def tail : S := match b27 with
  | .seq _ (.seq _ t) => t
  | _ => .skip
theorem b27_eq : b27 = .seq (.asg (.v 1) (.call 15 (.cons (.loc 0) .nil))) (.seq (.for_ (.v 2) (.rng (.k (.int 4))) lbody) tail) := rfl
/-- a value that is asked of -/
structure Ask (x : PV) : Prop where
  flat : x.flat = true
  dep : x.dep ≤ 6
  wid : wid x < 64
theorem odd_turn {x : PV} (a : Ask x) {x0 x1 x2 x3 x4 x6 x7 x8 : Option PV} {m : Mem} : evS con (run prg 59) obody [x0, x1, x2, x3, x4, some x, x6, x7, x8] m = .ok (.next, [x0, x1, x2, x3, x4, some x, x6, x7, x8]) m := by
  have e1 : run prg 59 13 [x] m = .ok (.bl (decide (0 ≤ tl 12 x 60))) m := is_test (n := 42) a.flat
  have e2 : run prg 59 14 [x] m = .ok (.bl (decide (0 ≤ pl 12 x 60))) m := is_policy (n := 41) a.flat
  have e3 : run prg 59 21 [x] m = .ok (val (tsz 7 x)) m := test_size 7 50 x m a.flat (by have := a.dep; omega)
  have e4 : run prg 59 23 [x] m = .ok (val (psz 7 x)) m := policy_size 7 50 x m a.flat (by have := a.dep; omega) a.wid
  have e5 : run prg 59 24 [val (tsz 7 x)] m = .ok (.bl (letB (tsz 7 x))) m := lets (n := 58) _
  have e6 : run prg 59 24 [val (psz 7 x)] m = .ok (.bl (letB (psz 7 x))) m := lets (n := 58) _
  rw [fits_t a.dep] at e1
  rw [fits_p a.dep] at e2
  simp [obody, lbody, b27, x_k, x_loc, x_glo, x_bin, x_neg, x_not, x_and, x_or, x_cmp, x_cmp2, x_ite, x_nil, x_cons, x_tup, x_lst, x_ix, x_sl, x_call, x_bf, x_isi, x_rng, x_zip, x_comp, x_dget, s_skip, s_seq, s_ex, s_ret, s_asg, s_par, s_ite, s_for, thenS_next, thenS_ret, fin_ret, fin_next, ob_some, obl_bl, bnd_if, lft_if, unl, bnd_ok, bnd_no, lft_some, lft_none, e1, e2, e3, e4, e5, e6, cmpop, D_non, D_bl, D_int, D_str, D_tup, D_lst, P_non, P_bl, P_int, P_str, P_tup, P_lst, P_nil, P_cons, eqM_d, isIn_t, isIn_l, PV.eqv, truth]
theorem ask_odd {D : Nat} {v x : PV} (hD : D ≤ 5) (hw : wid v ≤ 4) (o : Odd D v x) : Ask x := ⟨o.flat, by have := o.dep; omega, by have := o.wid; omega⟩
theorem turn {x0 x2 x3 x4 x5 x6 x7 x8 : Option PV} {m : Mem} (c : CupM m) : ∃ (y3 y4 y5 : Option PV) (m' : Mem), CupM m' ∧ evS con (run prg 59) lbody [x0, some (.cell 0), x2, x3, x4, x5, x6, x7, x8] m = .ok (.next, [x0, some (.cell 0), x2, y3, y4, y5, x6, x7, x8]) m' := by
  obtain ⟨t, m1, c1, ot, e1⟩ := draw_test 2 54 m c
  obtain ⟨p, m2, c2, op, e2⟩ := draw_policy 3 51 m1 c1
  have e1 : run prg 59 18 [.cell 0, .int 2, .bl true] m = .ok t m1 := e1
  have e2 : run prg 59 19 [.cell 0, .int 3] m1 = .ok p m2 := e2
  have tw := ot.wid
  have pw := op.wid
  have f1 : run prg 59 13 [t] m2 = .ok (.bl (decide (0 ≤ tl 12 t 60))) m2 := is_test (n := 42) ot.flat
  have f2 : run prg 59 14 [p] m2 = .ok (.bl (decide (0 ≤ pl 12 p 60))) m2 := is_policy (n := 41) op.flat
  rw [fits_t (by have := ot.dep; omega)] at f1
  rw [fits_p (by have := op.dep; omega)] at f2
  have g1 : letB (tsz 7 t) = true := by
    obtain ⟨n, k, h1, h2, h3⟩ := ot.size
    rw [h3 7 (by omega)]
    have : NB 2 = 7 := by decide
    simp [letB]; omega
  have g2 : letB (psz 7 p) = true := by
    obtain ⟨n, k, h1, h2, h3⟩ := op.size
    rw [h3 7 (by omega)]
    have : NP 3 = 36 := by decide
    simp [letB]; omega
  rw [g1] at f1
  rw [g2] at f2
  obtain ⟨o1, m3, c3, k1, s1⟩ := spoilt 3 53 t m2 ot.flat ot.dep (by omega) c2
  obtain ⟨o2, m4, c4, k2, s2⟩ := spoilt 5 51 p m3 op.flat op.dep (by omega) c3
  obtain ⟨o3, m5, c5, k3, s3⟩ := spoilt 5 51 p m4 op.flat op.dep (by omega) c4
  have s1 : run prg 59 25 [.cell 0, t] m2 = .ok o1 m3 := s1
  have s2 : run prg 59 25 [.cell 0, p] m3 = .ok o2 m4 := s2
  have s3 : run prg 59 25 [.cell 0, p] m4 = .ok o3 m5 := s3
  have a1 := ask_odd (by omega) tw k1
  have a2 := ask_odd (by omega) pw k2
  have a3 := ask_odd (by omega) pw k3
  refine ⟨some t, some p, some o3, m5, c5, ?_⟩
  have hb : lbody = .seq (.par (.t (.cons (.v 3) (.cons (.v 4) .nil))) (.cons (.call 18 (.cons (.loc 1) (.cons (.k (.int 2)) (.cons (.k (.bl true)) .nil)))) (.cons (.call 19 (.cons (.loc 1) (.cons (.k (.int 3)) .nil))) .nil)))
    (.seq (.ite (.or (.cmp .isnot (.call 13 (.cons (.loc 3) .nil)) (.k (.bl true))) (.cmp .isnot (.call 14 (.cons (.loc 4) .nil)) (.k (.bl true)))) (.ret (.k (.bl false))) .skip)
      (.for_ (.v 5) (.tup (.cons (.call 25 (.cons (.loc 1) (.cons (.loc 3) .nil))) (.cons (.call 25 (.cons (.loc 1) (.cons (.loc 4) .nil))) (.cons (.call 25 (.cons (.loc 1) (.cons (.loc 4) .nil))) .nil)))) obody)) := rfl
  rw [hb]
  simp [x_k, x_loc, x_glo, x_bin, x_neg, x_not, x_and, x_or, x_cmp, x_cmp2, x_ite, x_nil, x_cons, x_tup, x_lst, x_ix, x_sl, x_call, x_bf, x_isi, x_rng, x_zip, x_comp, x_dget, s_skip, s_seq, s_ex, s_ret, s_asg, s_par, s_ite, s_for, thenS_next, thenS_ret, fin_ret, fin_next, ob_some, obl_bl, bnd_if, lft_if, unl, bnd_ok, bnd_no, lft_some, lft_none, e1, e2, asg, f1, f2, cmpop, isSame, truth, s1, s2, s3, D_non, D_bl, D_int, D_str, D_tup, D_lst, P_non, P_bl, P_int, P_str, P_tup, P_lst, P_nil, P_cons, eqM_d, isIn_t, isIn_l, flat_D k1.flat, flat_D k2.flat, flat_D k3.flat, forL, forB_eq, odd_turn a1, odd_turn a2, odd_turn a3]
theorem turns_ : ∀ (l : List PV) {x0 x2 x3 x4 x5 x6 x7 x8 : Option PV} {m : Mem}, CupM m → ∃ (y2 y3 y4 y5 : Option PV) (m' : Mem), CupM m' ∧ forL (forB con (run prg 59) (.v 2) lbody) l [x0, some (.cell 0), x2, x3, x4, x5, x6, x7, x8] m = .ok (.next, [x0, some (.cell 0), y2, y3, y4, y5, x6, x7, x8]) m'
  | [], x0, x2, x3, x4, x5, x6, x7, x8, m, c => ⟨x2, x3, x4, x5, m, c, rfl⟩
  | x :: l, x0, x2, x3, x4, x5, x6, x7, x8, m, c => by
    obtain ⟨y3, y4, y5, m1, c1, e1⟩ := turn (x0 := x0) (x2 := some x) (x3 := x3) (x4 := x4) (x5 := x5) (x6 := x6) (x7 := x7) (x8 := x8) c
    obtain ⟨z2, z3, z4, z5, m2, c2, e2⟩ := turns_ l (x0 := x0) (x2 := some x) (x3 := y3) (x4 := y4) (x5 := y5) (x6 := x6) (x7 := x7) (x8 := x8) c1
    refine ⟨z2, z3, z4, z5, m2, c2, ?_⟩
    unfold forL
    simp [forB_eq, asg, e1, e2]
theorem law_of (ht : ∀ (x0 x2 x3 x4 x5 : Option PV) (m : Mem), bnd (evS con (run prg 59) tail [x0, some (.cell 0), x2, x3, x4, x5, none, none, none] m) fin = .ok (.bl true) m) (ns : List Int) (h : ns.length ≤ 63) : ∃ m, run prg 60 27 [.lst (ns.map .int)] [] = .ok (.bl true) m := by
  obtain ⟨m1, c1, e1⟩ := cup (n := 58) ns h
  obtain ⟨y2, y3, y4, y5, m2, c2, e2⟩ := turns_ (rangeL 0 4) (x0 := some (.lst (ns.map .int))) (x2 := none) (x3 := none) (x4 := none) (x5 := none) (x6 := none) (x7 := none) (x8 := none) c1
  refine ⟨m2, ?_⟩
  have r27 : run prg 60 27 [.lst (ns.map .int)] [] = go b27 1 9 59 [.lst (ns.map .int)] [] := rfl
  have e1 : run prg 59 15 [.lst (ns.map .int)] [] = .ok (.cell 0) m1 := e1
  have h3 := ht (some (.lst (ns.map .int))) y2 y3 y4 y5 m2
  have hb : (4 : Int) ≤ (big : Int) := by decide
  have hs : small 4 = true := by decide
  rw [r27, go, b27_eq]
  simp [x_k, x_loc, x_glo, x_bin, x_neg, x_not, x_and, x_or, x_cmp, x_cmp2, x_ite, x_nil, x_cons, x_tup, x_lst, x_ix, x_sl, x_call, x_bf, x_isi, x_rng, x_zip, x_comp, x_dget, s_skip, s_seq, s_ex, s_ret, s_asg, s_par, s_ite, s_for, thenS_next, thenS_ret, fin_ret, fin_next, ob_some, obl_bl, bnd_if, lft_if, unl, bnd_ok, bnd_no, lft_some, lft_none, e1, asg, hb, hs, e2]
  exact h3
end P00
namespace P00
open Pv
open PySem
abbrev top (i : Nat) : Stmt := PySem.Challenge.pw_tagrounds_k00_whole_tests_and_policies.main.body.getD i (.Pass ⟨0, 0, 0, 0⟩)
abbrev d0 : Df := ⟨top 5, ["value", "low", "high"]⟩
abbrev d1 : Df := ⟨top 6, ["value", "low", "high"]⟩
abbrev d2 : Df := ⟨top 7, ["value", "words"]⟩
abbrev d3 : Df := ⟨top 8, ["value", "low", "high"]⟩
abbrev d4 : Df := ⟨top 9, ["values", "low", "high"]⟩
abbrev d5 : Df := ⟨top 13, ["value"]⟩
abbrev d6 : Df := ⟨top 14, ["value", "high", "many", "sort", "rest", "part"]⟩
abbrev d7 : Df := ⟨top 15, ["value"]⟩
abbrev d8 : Df := ⟨top 16, ["value", "own"]⟩
abbrev d9 : Df := ⟨top 17, ["value", "sort", "many"]⟩
abbrev d10 : Df := ⟨top 18, ["value", "high", "many", "rest", "parts", "part"]⟩
abbrev d11 : Df := ⟨top 19, ["value"]⟩
abbrev d12 : Df := ⟨top 20, ["value"]⟩
abbrev d13 : Df := ⟨top 21, ["value"]⟩
abbrev d14 : Df := ⟨top 22, ["value"]⟩
abbrev d15 : Df := ⟨top 24, ["script", "cell"]⟩
abbrev d16 : Df := ⟨top 25, ["cup", "many", "found", "deep"]⟩
abbrev d17 : Df := ⟨top 26, ["cup", "things"]⟩
abbrev d18 : Df := ⟨top 31, ["cup", "deep", "ports", "way", "low"]⟩
abbrev d19 : Df := ⟨top 32, ["cup", "deep", "way"]⟩
abbrev d20 : Df := ⟨top 33, ["value", "low", "high"]⟩
abbrev d21 : Df := ⟨top 34, ["value", "fine", "part"]⟩
abbrev d22 : Df := ⟨top 35, ["told", "one"]⟩
abbrev d23 : Df := ⟨top 36, ["value", "own", "part"]⟩
abbrev d24 : Df := ⟨top 37, ["told"]⟩
abbrev d25 : Df := ⟨top 38, ["cup", "value", "some", "at", "way"]⟩
abbrev d26 : Df := ⟨top 39, ["deep", "chain", "wide", "full", "turn", "rows", "rest", "row"]⟩
abbrev d27 : Df := ⟨top 40, ["script", "cup", "turn", "test", "policy", "odd", "rows", "drop", "row"]⟩
def ds : List Df := [d0, d1, d2, d3, d4, d5, d6, d7, d8, d9, d10, d11, d12, d13, d14, d15, d16, d17, d18, d19, d20, d21, d22, d23, d24, d25, d26, d27]
def fx : List Str := ["is_whole", "is_tuple_of", "is_word_of", "is_headed", "is_ascending", "is_field_test", "test_left", "is_leaf", "are_switches", "parts_in", "policy_left", "fits_test", "fits_policy", "is_test", "is_policy", "_law_cup", "_law_roll", "_law_some", "_law_test", "_law_policy", "_law_is_whole", "_law_test_size", "_law_over", "_law_size", "_law_lets", "_law_spoilt", "_law_bounds_right", "law"]
def cx : List Str := ["FIELDS", "HIGH", "PORTS", "SWITCHES", "NODES", "HEIGHT"]
def bx : List Str := ["abs", "all", "bool", "int", "isinstance", "len", "list", "max", "range", "set", "sorted", "str", "sum", "tuple", "zip"]
def loose : List Str := [Str.ofString "FIELDS", Str.ofString "HIGH", Str.ofString "PORTS", Str.ofString "SWITCHES", Str.ofString "is_whole", Str.ofString "is_tuple_of", Str.ofString "is_word_of", Str.ofString "is_headed", Str.ofString "is_ascending", Str.ofString "NODES", Str.ofString "HEIGHT", Str.ofString "is_field_test", Str.ofString "test_left", Str.ofString "is_leaf", Str.ofString "are_switches", Str.ofString "parts_in", Str.ofString "policy_left", Str.ofString "fits_test", Str.ofString "fits_policy", Str.ofString "is_test", Str.ofString "is_policy", Str.ofString "_law_cup", Str.ofString "_law_roll", Str.ofString "_law_some", Str.ofString "_law_header", Str.ofString "_law_passes", Str.ofString "_law_cards", Str.ofString "_law_actions", Str.ofString "_law_test", Str.ofString "_law_policy", Str.ofString "_law_is_whole", Str.ofString "_law_test_size", Str.ofString "_law_over", Str.ofString "_law_size", Str.ofString "_law_lets", Str.ofString "_law_spoilt", Str.ofString "_law_bounds_right"]
abbrev txt : Txt := ⟨prg, ds, fx, cx, bx⟩
end P00
namespace P00
open PySem PySem.Spec PyProof.Rows L2 Pv
theorem ok : txt.ok = true := by decide +kernel
abbrev R : PySem.W.OpenRow := PySem.W.OpenLaw.row PySem.Challenge.rw_tagrounds_k00_whole_tests_and_policies
abbrev fa : List He.Fa := txt.fa
abbrev fn : List He.DefD := txt.fn
abbrev cs : List (Str × PV) := txt.cs
abbrev hk : PySem.W.Hook := hookC 4 fa fn cs
def ob (s : PySem.W.SharedT) : AlC := obsCG 4 fa fn cs (HandSHeadRun.getT s)
theorem ob_eq (s : PySem.W.SharedT) : ob s = hk.obs s.abs := obsCG_eq (HandSHeadRun.getT_eq s)
theorem hrun (w : World) : HandSHeadRun.RunEq R (PySem.W.view R.prog [40]) hk ob 2000 loose w := by
  intro os
  kernel_rfl
end P00
open PySem PySem.W PySem.Calls PyProof.Rows
theorem P00.holds (law : ∀ ns : List Int, ns.length ≤ 63 → ∃ m, Pv.run P00.txt.pr (59 + 1) 27 [.lst (ns.map .int)] [] = .ok (.bl true) m) : PySem.Challenge.rw_tagrounds_k00_whole_tests_and_policies.Holds := by
  w_on; o_law
  refine HandSHeadRun.head_any (r := OpenLaw.row PySem.Challenge.rw_tagrounds_k00_whole_tests_and_policies) (q := view (OpenLaw.row PySem.Challenge.rw_tagrounds_k00_whole_tests_and_policies).prog [40]) (H := P00.hk) (ob := P00.ob) (M := 2000) (loose := P00.loose) (d := HandSHeadRun.topDef (OpenLaw.row PySem.Challenge.rw_tagrounds_k00_whole_tests_and_policies).prog 40) (kwd := []) P00.ob_eq
    (by kernel_rfl) (fun s => by kernel_rfl) P00.hrun (by kernel_rfl) (by kernel_rfl) (by kernel_rfl) (by rfl) (by first | assumption | decide +kernel) (by decide +kernel) ⟨rfl, rfl, rfl, rfl, rfl, by decide +kernel⟩ ?hw ?hc
  case hw => w_witness2
  case hc =>
    refine L2.walk_ofE (l := PySem.Challenge.rw_tagrounds_k00_whole_tests_and_policies) (n := 63) (k := 59 + 1 + 5) (x := "script") (CX := fun _ _ _ _ _ _ => False) rfl (by decide) (by kernel_rfl) ⟨rfl, by decide, by decide⟩ ?F (fun _ _ _ _ z => z)
    intro w mg fa h Y G hmg0
    obtain ⟨K, KX, hn, c⟩ := Y
    have hmg : mg ("law" : PySem.Str) = some (.ref fa) := by
      have e : (HandSHeadRun.topDef (OpenLaw.row PySem.Challenge.rw_tagrounds_k00_whole_tests_and_policies).prog 40).name = ("law" : PySem.Str) := by kernel_rfl
      rw [← e]
      exact hmg0
    have e := hmg.symm.trans (He.glo_ok KX G (c.d.fact 27 (f := .glo "law") (by rfl)))
    cases e
    obtain ⟨fd, hb, hF⟩ := Pv.law_fn (T := P00.txt) (P := PySem.Challenge.pw_tagrounds_k00_whole_tests_and_policies) (w := w) P00.ok hn KX G c (n := 59) (i := 27) (x := "law") (p := "script") (by rfl) (d := P00.d27) (by rfl) (as := (L2.defArgs (P00.top 40)).args) (by rfl) (by rfl) law
    exact ⟨K, fd, Pv.spLaw K, KX, hb, fun H a ns hl hO hS => ⟨a, ns, rfl, hO, hS, hl, fun _ => rfl⟩, hF⟩
namespace P00
open PySem PySem.Spec PyProof.Rows L2 Pv
theorem tail_ok (x0 x2 x3 x4 x5 : Option PV) (m : Mem) : bnd (evS con (run prg 59) tail [x0, some (.cell 0), x2, x3, x4, x5, none, none, none] m) fin = .ok (.bl true) m := by
  kernel_rfl
end P00
theorem PySem.Challenge.cw_tagrounds_k00_whole_tests_and_policies_holds : PySem.Challenge.rw_tagrounds_k00_whole_tests_and_policies.Holds :=
  P00.holds (P00.law_of P00.tail_ok)
