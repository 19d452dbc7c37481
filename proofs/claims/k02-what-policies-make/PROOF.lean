import PyProof.Rows.All
import Wide.All
import OpenK.AllK
import Wide.FinOn
import HandS.ForMost
import HandS.Walk
import HandS.Exc
import HandS.ExcOwn
import HandS.TupAny
import HandS.TupMul
import HandS.CallSlots
import HandS.Defaults
import HandS.TupSets
import KE.KeyNested
import KE.SortData
import HandS.SetFor
import HandS.SortInts
import HandS.Strs
import HandS.HeadHook4
import HandS.Lambda
import HandS.IsInst
import HandS.TupLe
import KE.GoesNew
import KE.GoesMore
import HandS.Zip
import HandS.Dict
import HandS.Deep
import HandS.Conv
import HandS.TryMany
import HandS.Style
import PyProof.ExcBaseAll.ValueError
import HandS.Words
import HandS.Codes
import HandS.Head0
import HandS.Head1
import HandS.Head2
import HandS.HeadEnd
import HandS.HeadHook1
import HandS.HeadHook2
import HandS.HeadWalk
import PyProof.TableCode
import PySem.Challenge.RW_tagrounds_k02_whole_what_policies_make
set_option Elab.async false
set_option linter.all false
set_option maxRecDepth 100000
/-! A small evaluator of the part of Python that the texts at hand use: values without addresses, lists that a
    text changes in place kept in a store of cells. -/
namespace Pv
/-- values: data (flat), a cell of the store, a def of the text -/
inductive PV where
  | non
  | bl (b : Bool)
  | int (i : Int)
  | str (s : List Nat)
  | tup (l : List PV)
  | lst (l : List PV)
  | cell (k : Nat)
  | fn (i : Nat)
  deriving Inhabited
abbrev Mem := List (List PV)
abbrev Env := List (Option PV)
/-- an exception: its class (by number), its attribute -/
structure Xn where
  c : Nat
  v : PV
inductive R (α : Type) where
  | ok (a : α) (m : Mem)
  | exc (x : Xn) (m : Mem)
  | no
def bnd {α β : Type} (r : R α) (f : α → Mem → R β) : R β := match r with
  | .ok a m => f a m
  | .exc x m => .exc x m
  | .no => .no
@[simp] theorem bnd_ok {α β : Type} (a : α) (m : Mem) (f : α → Mem → R β) : bnd (.ok a m) f = f a m := rfl
@[simp] theorem bnd_exc {α β : Type} (x : Xn) (m : Mem) (f : α → Mem → R β) : bnd (.exc x m) f = .exc x m := rfl
@[simp] theorem bnd_no {α β : Type} (f : α → Mem → R β) : bnd .no f = .no := rfl
/-- no exception leaves a comprehension -/
def noexc {α : Type} (r : R α) : R α := match r with
  | .exc _ _ => .no
  | r => r
@[simp] theorem noexc_ok {α : Type} (a : α) (m : Mem) : noexc (.ok a m) = .ok a m := rfl
@[simp] theorem noexc_no {α : Type} : noexc (.no : R α) = .no := rfl
def lft {α : Type} (o : Option α) (m : Mem) : R α := match o with
  | some a => .ok a m
  | none => .no
@[simp] theorem lft_some {α : Type} (a : α) (m : Mem) : lft (some a) m = .ok a m := rfl
@[simp] theorem lft_none {α : Type} (m : Mem) : lft (none : Option α) m = .no := rfl
/-! ### data -/
def PV.isD : PV → Bool
  | .cell _ => false
  | .fn _ => false
  | _ => true
mutual
def PV.flat : PV → Bool
  | .tup l => flatAll l
  | .lst l => flatAll l
  | .cell _ => false
  | .fn _ => false
  | _ => true
def flatAll : List PV → Bool
  | [] => true
  | x :: l => x.flat && flatAll l
end
mutual
def PV.dep : PV → Nat
  | .tup l => depAll l + 1
  | .lst l => depAll l + 1
  | _ => 0
def depAll : List PV → Nat
  | [] => 0
  | x :: l => max x.dep (depAll l)
end
def b2 (b : Bool) : Int := if b then 1 else 0
mutual
/-- == of data -/
def PV.eqv : PV → PV → Bool
  | .non, .non => true
  | .bl a, .bl b => a == b
  | .bl a, .int j => b2 a == j
  | .int i, .bl b => i == b2 b
  | .int i, .int j => i == j
  | .str x, .str y => x == y
  | .lst a, .lst b => eqvAll a b
  | .tup a, .tup b => eqvAll a b
  | _, _ => false
def eqvAll : List PV → List PV → Bool
  | [], [] => true
  | x :: a, y :: b => x.eqv y && eqvAll a b
  | _, _ => false
end
/-- what a cell holds, as a list -/
def vw (m : Mem) : PV → PV
  | .cell k => match m[k]? with
    | some l => if l.all PV.isD then .lst l else .cell k
    | none => .cell k
  | v => v
def maxD : Nat := 64
def eqM (m : Mem) (x y : PV) : Option Bool :=
  if (vw m x).isD && (vw m y).isD && decide (min (vw m x).dep (vw m y).dep ≤ maxD) then some ((vw m x).eqv (vw m y)) else none
def big : Nat := 16777216
def truth (m : Mem) : PV → Option Bool
  | .non => some false
  | .bl b => some b
  | .int i => some (i != 0)
  | .str s => some (!s.isEmpty)
  | .tup l => some (!l.isEmpty)
  | .lst l => some (!l.isEmpty)
  | .cell k => m[k]?.map fun l => !l.isEmpty
  | .fn _ => none
/-! ### operators -/
inductive Op where
  | add | sub | mul | fdiv | mod | pow | band | bor | bxor | shr
def inL (i : Int) : Bool := decide (-(2 ^ 64) < i) && decide (i < 2 ^ 64)
/-- a list made anew, or a cell -/
def mkl (mu : Bool) (l : List PV) (m : Mem) : R PV :=
  if mu then .ok (.cell m.length) (m ++ [l]) else if l.all PV.isD then .ok (.lst l) m else .no
def bitAnd (a b : Int) : Option Int := match a, b with
  | .ofNat x, .ofNat y => some (.ofNat (x &&& y))
  | _, _ => none
def bitOr (a b : Int) : Option Int := match a, b with
  | .ofNat x, .ofNat y => some (.ofNat (x ||| y))
  | _, _ => none
def bitXor (a b : Int) : Option Int := match a, b with
  | .ofNat x, .ofNat y => some (.ofNat (x ||| y) - .ofNat (x &&& y))
  | _, _ => none
def rep {α : Type} (l : List α) : Nat → List α
  | 0 => []
  | n + 1 => l ++ rep l n
def arith (o : Op) (i j : Int) : Option Int := match o with
  | .add => some (i + j)
  | .sub => some (i - j)
  | .mul => if inL i || inL j then some (i * j) else none
  | .fdiv => if 0 < j ∧ j < 1073741824 then some (i / j) else none
  | .mod => if 0 < j then some (i % j) else none
  | .pow => if 0 ≤ j ∧ j ≤ 1000 ∧ i.natAbs < 2 ^ 64 then some (i ^ j.toNat) else none
  | .band => bitAnd i j
  | .bor => bitOr i j
  | .bxor => bitXor i j
  | .shr => if 0 ≤ j then some (i / 2 ^ j.toNat) else none
/-- a op b; what comes of lists is new -/
def binop (mu : Bool) (o : Op) (x y : PV) (m : Mem) : R PV := match vw m x, vw m y with
  | .int i, .int j => lft ((arith o i j).map .int) m
  | .tup a, .tup b => match o with
    | .add => if a.length + b.length ≤ big then .ok (.tup (a ++ b)) m else .no
    | _ => .no
  | .lst a, .lst b => match o with
    | .add => if a.length + b.length ≤ big then mkl mu (a ++ b) m else .no
    | _ => .no
  | .str a, .str b => match o with
    | .add => if a.length + b.length ≤ big then .ok (.str (a ++ b)) m else .no
    | _ => .no
  | .lst a, .int j => match o with
    | .mul => if a.length * j.toNat ≤ big ∧ j ≤ 1000000 ∧ -1000000 ≤ j then mkl mu (rep a j.toNat) m else .no
    | _ => .no
  | .tup a, .int j => match o with
    | .mul => if a.length ≤ 1000 ∧ a ≠ [] ∧ 2 ≤ j ∧ j ≤ 1000 then .ok (.tup (rep a j.toNat)) m else .no
    | _ => .no
  | _, _ => .no
inductive Cm where
  | eq | ne | lt | le | gt | ge | is_ | isnot | in_ | notin
def intsOf : List PV → Option (List Int)
  | [] => some []
  | .int i :: l => (intsOf l).map (i :: ·)
  | _ :: _ => none
def lexI : List Int → List Int → Bool
  | [], [] => false
  | [], _ :: _ => true
  | _ :: _, [] => false
  | x :: xs, y :: ys => if x = y then lexI xs ys else decide (x < y)
/-- <: of intsOf, of tuples of intsOf -/
def PV.lt : PV → PV → Option Bool
  | .int i, .int j => some (decide (i < j))
  | .tup a, .tup b => match intsOf a, intsOf b with
    | some x, some y => some (lexI x y)
    | _, _ => none
  | _, _ => none
def anyEq (d : PV) (l : List PV) : Bool := l.any fun z => z.eqv d
def isIn (m : Mem) (x y : PV) : Option Bool := match vw m y with
  | .tup l => if (vw m x).isD && decide (min (depAll l) (vw m x).dep ≤ maxD) then some (anyEq (vw m x) l) else none
  | .lst l => if (vw m x).isD && decide (min (depAll l) (vw m x).dep ≤ maxD) then some (anyEq (vw m x) l) else none
  | _ => none
def isSame (x y : PV) : Option Bool := match x, y with
  | .bl a, .bl b => some (a == b)
  | .non, .non => some true
  | _, .non => some false
  | _, _ => none
def cmpop (c : Cm) (m : Mem) (x y : PV) : Option Bool := match c with
  | .eq => eqM m x y
  | .ne => (eqM m x y).map (!·)
  | .lt => (vw m x).lt (vw m y)
  | .gt => match x, y with
    | .int i, .int j => some (decide (j < i))
    | _, _ => none
  | .le => match x, y with
    | .int i, .int j => some (decide (i ≤ j))
    | _, _ => none
  | .ge => match x, y with
    | .int i, .int j => some (decide (j ≤ i))
    | _, _ => none
  | .is_ => isSame x y
  | .isnot => (isSame x y).map (!·)
  | .in_ => isIn m x y
  | .notin => (isIn m x y).map (!·)
/-! ### the text -/
inductive Ty where
  | int | bool | str | tuple | list
def isTy (m : Mem) : PV → Ty → Option Bool
  | .non, _ => some false
  | .bl _, .bool => some true
  | .bl _, .int => some true
  | .bl _, _ => some false
  | .int _, .int => some true
  | .int _, _ => some false
  | .str _, .str => some true
  | .str _, _ => some false
  | .tup _, .tuple => some true
  | .tup _, _ => some false
  | .lst _, .list => some true
  | .lst _, _ => some false
  | .cell _, _ => none
  | .fn _, _ => none
inductive Bf where
  | len | abs | int_ | tuple | list | sorted | all | any | sum | min | max | str | lenset | sortset | tuprange | repr | min2 | max2 | bool
/-- targets -/
inductive Tg where
  | v (i : Nat)
  | t (l : Tg)
  | nil
  | cons (a l : Tg)
/-- an answer that a def gives as it is written -/
inductive An where
  | word (l : List Nat)
  | truth (b : Bool)
  deriving DecidableEq
def An.pv : An → PV
  | .word l => .str l
  | .truth b => .bl b
/-- clauses: the class, the classes below it, the answer -/
abbrev Cls := List (Nat × List Nat × An)
def Cls.at (ws : Cls) (c : Nat) : Option An := (ws.find? fun w => w.2.1.contains c).map (·.2.2)
inductive E where
  | k (v : PV)
  | loc (i : Nat)
  | glo (i : Nat)
  | bin (mu : Bool) (o : Op) (a b : E)
  | neg (a : E)
  | not (a : E)
  | and (a b : E)
  | or (a b : E)
  | cmp (c : Cm) (a b : E)
  | cmp2 (c d : Cm) (a b e : E)
  | ite (c a b : E)
  | nil
  | cons (a l : E)
  | tup (l : E)
  | lst (mu : Bool) (l : E)
  | ix (a b : E)
  | sl (a lo hi : E)
  | rev (a : E)
  | call (f : Nat) (l : E)
  | callv (f l : E)
  | bf (mu : Bool) (b : Bf) (l : E)
  | isi (a : E) (t : Ty)
  | rng (a : E)
  | rng2 (a b : E)
  | enu (a : E)
  | zip (a b : E)
  | zip3 (a b c : E)
  | comp (mu : Bool) (own : List Nat) (t : Tg) (s c e : E)
  | app (o e : E)
  | popl (o : E)
  | popi (o i : E)
  | index (o e : E)
  | indexc (i : Nat) (e : E)
  | dget (ks : List (List Nat)) (vs k d : E)
  | tell (ws : Cls) (d : An) (e : E)
  | trng (a : E)
  | trng2 (a b : E)
  | wild
inductive S where
  | skip
  | seq (a b : S)
  | ex (e : E)
  | ret (e : E)
  | asg (t : Tg) (e : E)
  | par (t : Tg) (l : E)
  | setix (o i e : E)
  | ite (c : E) (a b : S)
  | for_ (t : Tg) (s : E) (b : S)
  | whl (c : E) (b : S)
  | brk
  | cnt
  | raise (c : Nat)
  | stop
structure Fn where
  np : Nat
  nl : Nat
  body : S
structure Prg where
  fns : List Fn
  con : List PV
/-! ### sequences -/
/-- the place of an index -/
def atI (n : Nat) (i : Int) : Option Nat :=
  if 0 ≤ i then (if i < n then some i.toNat else none) else if -(n : Int) ≤ i then some (i + n).toNat else none
def bound (n d : Nat) : Option Int → Nat
  | none => d
  | some i => if i < 0 then (i + (n : Int)).toNat else min i.toNat n
def cut {α : Type} (l : List α) (lo hi : Option Int) : List α :=
  (l.drop (bound l.length 0 lo)).take (bound l.length l.length hi - bound l.length 0 lo)
def small (i : Int) : Bool := decide (-(2 ^ 62) ≤ i) && decide (i < 2 ^ 62)
def item (m : Mem) (x i : PV) : Option PV := match vw m x, i with
  | .tup l, .int i => (atI l.length i).bind fun k => l[k]?
  | .lst l, .int i => (atI l.length i).bind fun k => l[k]?
  | .str l, .int i => (atI l.length i).bind fun k => l[k]?.map fun c => .str [c]
  | .cell k, .int i => m[k]?.bind fun l => (atI l.length i).bind fun k => l[k]?
  | _, _ => none
def optI : PV → Option (Option Int)
  | .non => some none
  | .int i => if small i then some (some i) else none
  | _ => none
def slice (m : Mem) (x lo hi : PV) : Option PV := (optI lo).bind fun a => (optI hi).bind fun b => match vw m x with
  | .tup l => some (.tup (cut l a b))
  | .lst l => some (.lst (cut l a b))
  | .str l => some (.str (cut l a b))
  | _ => none
def seqOf (m : Mem) (x : PV) : Option (List PV) := match vw m x with
  | .tup l => some l
  | .lst l => some l
  | _ => none
def firsts : List Int → List Int → List Int
  | [], acc => acc.reverse
  | i :: l, acc => if acc.contains i then firsts l acc else firsts l (i :: acc)
def insU (x : Int) : List Int → List Int
  | [] => [x]
  | y :: l => if x < y then x :: y :: l else if x = y then y :: l else y :: insU x l
def sortU : List Int → List Int
  | [] => []
  | x :: l => insU x (sortU l)
def digits : Nat → Nat → List Nat → List Nat
  | 0, _, acc => acc
  | f + 1, n, acc => if n < 10 then (48 + n) :: acc else digits f (n / 10) ((48 + n % 10) :: acc)
def showI (i : Int) : List Nat := if i < 0 then 45 :: digits 200 i.natAbs [] else digits 200 i.natAbs []
def rangeL (lo : Int) : Nat → List PV
  | 0 => []
  | n + 1 => .int lo :: rangeL (lo + 1) n
def enumL (i : Int) : List PV → List PV
  | [] => []
  | x :: l => .tup [.int i, x] :: enumL (i + 1) l
def zipL : List PV → List PV → List PV
  | x :: a, y :: b => .tup [x, y] :: zipL a b
  | _, _ => []
def zipL3 : List PV → List PV → List PV → List PV
  | x :: a, y :: b, z :: c => .tup [x, y, z] :: zipL3 a b c
  | _, _, _ => []
def boolsOf : List PV → Option (List Bool)
  | [] => some []
  | .bl b :: l => (boolsOf l).map (b :: ·)
  | _ :: _ => none
def strsOf : List PV → Option (List (List Nat))
  | [] => some []
  | .str s :: l => (strsOf l).map (s :: ·)
  | _ :: _ => none
/-! ### sorting -/
mutual
/-- ints, words, tuples of such -/
def PV.keyS : PV → Bool
  | .int _ => true
  | .str _ => true
  | .tup l => keySAll l
  | _ => false
def keySAll : List PV → Bool
  | [] => true
  | x :: l => x.keyS && keySAll l
end
mutual
/-- ints, tuples of such -/
def PV.keyB : PV → Bool
  | .int _ => true
  | .tup l => keyBAll l
  | _ => false
def keyBAll : List PV → Bool
  | [] => true
  | x :: l => x.keyB && keyBAll l
end
mutual
/-- the two can be compared by < -/
def PV.like : PV → PV → Bool
  | .int _, .int _ => true
  | .str _, .str _ => true
  | .tup a, .tup b => likeAll a b
  | _, _ => false
def likeAll : List PV → List PV → Bool
  | x :: xs, y :: ys => x.like y && likeAll xs ys
  | _, _ => true
end
mutual
def PV.ltk : PV → PV → Bool
  | .int i, .int j => decide (i < j)
  | .str s, .str t => decide (s < t)
  | .tup a, .tup b => ltkAll a b
  | _, _ => false
def ltkAll : List PV → List PV → Bool
  | x :: xs, y :: ys => if x.eqv y then ltkAll xs ys else x.ltk y
  | [], _ :: _ => true
  | _, [] => false
end
def insK (x : PV) : List PV → List PV
  | [] => [x]
  | y :: l => if y.ltk x then y :: insK x l else x :: y :: l
def isort : List PV → List PV
  | [] => []
  | x :: l => insK x (isort l)
def insN (x : PV) : List PV → List PV
  | [] => [x]
  | y :: l => if x.eqv y then y :: l else if x.ltk y then x :: y :: l else y :: insN x l
/-- the unlike ones, upwards -/
def sortN : List PV → List PV
  | [] => []
  | x :: l => insN x (sortN l)
def PV.tup1 : PV → Bool
  | .tup (_ :: _) => true
  | _ => false
def PV.noTup : PV → Bool
  | .tup _ => false
  | _ => true
def sortable (l : List PV) : Bool := keySAll l && l.all (fun x => l.all fun y => x.like y) && (l.all PV.tup1 || l.all PV.noTup)
/-- the unlike ones -/
def dist : List PV → List PV
  | [] => []
  | x :: l => if anyEq x l then dist l else x :: dist l
def setable (l : List PV) : Bool := keyBAll l && l.all PV.tup1 && decide (depAll l ≤ 8) && decide (l.length < 64)
def callB (mu : Bool) (b : Bf) (l : List PV) (m : Mem) : R PV := match b, l with
  | .len, [x] => match vw m x with
    | .tup l => .ok (.int l.length) m
    | .lst l => .ok (.int l.length) m
    | .str l => .ok (.int l.length) m
    | .cell k => lft (m[k]?.map fun l => .int l.length) m
    | _ => .no
  | .abs, [.int i] => .ok (.int (if i < 0 then -i else i)) m
  | .int_, [.int i] => .ok (.int i) m
  | .tuple, [x] => match vw m x with
    | .tup l => .ok (.tup l) m
    | .lst l => .ok (.tup l) m
    | _ => .no
  | .list, [x] => match vw m x with
    | .tup l => mkl mu l m
    | .lst l => mkl mu l m
    | .cell k => match m[k]? with
      | some l => mkl mu l m
      | none => .no
    | _ => .no
  | .all, [x] => match vw m x with
    | .lst l => lft ((boolsOf l).map fun bs => .bl (bs.all id)) m
    | _ => .no
  | .any, [x] => match vw m x with
    | .lst l => lft ((boolsOf l).map fun bs => .bl (bs.any id)) m
    | _ => .no
  | .sum, [x] => match vw m x with
    | .lst l => lft ((intsOf l).map fun is => .int is.sum) m
    | _ => .no
  | .max, [x] => match vw m x with
    | .lst l => match intsOf l with
      | some (i :: is) => .ok (.int (is.foldl max i)) m
      | _ => .no
    | _ => .no
  | .min, [x] => match vw m x with
    | .lst l => match intsOf l with
      | some (i :: is) => .ok (.int (is.foldl min i)) m
      | _ => .no
    | _ => .no
  | .lenset, [x] => match x with
    | .lst l => match intsOf l with
      | some is => if is.length ≤ 1000 then .ok (.int (dist l).length) m else .no
      | none => if setable l then .ok (.int (dist l).length) m else .no
    | .tup l => if setable l then .ok (.int (dist l).length) m else .no
    | _ => .no
  | .sortset, [x] => match x with
    | .tup l => match intsOf l with
      | some is => if is.length < 64 then mkl mu ((sortU is).map .int) m else .no
      | none => if setable l && sortable l then mkl mu (sortN l) m else .no
    | .lst l => if setable l && sortable l then mkl mu (sortN l) m else .no
    | _ => .no
  | .sorted, [x] => match vw m x with
    | .lst l => if sortable l && decide (l.length ≤ 1000) && decide (depAll l ≤ 62) then mkl mu (isort l) m else .no
    | _ => .no
  | _, _ => .no
/-! ### evaluation -/
def asg : Tg → PV → Env → Option Env
  | .v i, x, ρ => some (ρ.set i (some x))
  | .t l, .tup xs, ρ => asg l (.tup xs) ρ
  | .nil, .tup [], ρ => some ρ
  | .cons a l, .tup (x :: xs), ρ => (asg a x ρ).bind fun ρ' => asg l (.tup xs) ρ'
  | _, _, _ => none
def wipeP (ρ : Env) : List Nat → Env
  | [] => ρ
  | v :: vs => (wipeP ρ vs).set v none
/-- the turns of a comprehension over a list -/
def compL (f : PV → Mem → R (Option PV)) : List PV → Mem → R (List PV)
  | [], m => .ok [] m
  | x :: l, m => bnd (f x m) fun o m => bnd (compL f l m) fun r m => .ok (match o with | some y => y :: r | none => r) m
/-- the turns of a comprehension over a cell: at each turn what it holds then -/
def compC (f : PV → Mem → R (Option PV)) (k n : Nat) : Nat → Mem → R (List PV)
  | 0, m => match m[k]? with
    | some l => if l.length = n then .ok [] m else .no
    | none => .no
  | r + 1, m => match m[k]? with
    | some l => if l.length = n then (match l[n - (r + 1)]? with
      | some x => bnd (f x m) fun o m => bnd (compC f k n r m) fun vs m => .ok (match o with | some y => y :: vs | none => vs) m
      | none => .no) else .no
    | none => .no
def tstB (m : Mem) (v : PV) : R Bool := lft (truth m v) m
/-- one turn of a comprehension: the test, the element -/
def compT (c e : Mem → R PV) (m : Mem) : R (Option PV) :=
  bnd (noexc (c m)) fun cv m => bnd (tstB m cv) fun b m => if b then bnd (noexc (e m)) fun v m => .ok (some v) m else .ok none m
inductive Fl where
  | next
  | ret (v : PV)
  | brk
  | cnt
def forL (f : PV → Env → Mem → R (Fl × Env)) : List PV → Env → Mem → R (Fl × Env)
  | [], ρ, m => .ok (.next, ρ) m
  | x :: l, ρ, m => bnd (f x ρ m) fun q m => match q.1 with
    | .next => forL f l q.2 m
    | .cnt => forL f l q.2 m
    | .brk => .ok (.next, q.2) m
    | .ret v => .ok (.ret v, q.2) m
def forC (f : PV → Env → Mem → R (Fl × Env)) (k n : Nat) : Nat → Env → Mem → R (Fl × Env)
  | 0, ρ, m => match m[k]? with
    | some l => if l.length = n then .ok (.next, ρ) m else .no
    | none => .no
  | r + 1, ρ, m => match m[k]? with
    | some l => if l.length = n then (match l[n - (r + 1)]? with
      | some x => bnd (f x ρ m) fun q m => match q.1 with
        | .next => forC f k n r q.2 m
        | .cnt => forC f k n r q.2 m
        | .brk => .ok (.next, q.2) m
        | .ret v => .ok (.ret v, q.2) m
      | none => .no) else .no
    | none => .no
def whileL (c : Env → Mem → R Bool) (f : Env → Mem → R (Fl × Env)) : Nat → Env → Mem → R (Fl × Env)
  | 0, _, _ => .no
  | n + 1, ρ, m => bnd (c ρ m) fun b m => if b then bnd (f ρ m) fun q m => match q.1 with
    | .next => whileL c f n q.2 m
    | .cnt => whileL c f n q.2 m
    | .brk => .ok (.next, q.2) m
    | .ret v => .ok (.ret v, q.2) m
    else .ok (.next, ρ) m
def turns : Nat := 1000000
def unl : PV → List PV
  | .tup l => l
  | _ => []
def lkS : List (List Nat) → List PV → List Nat → Option PV
  | k :: ks, v :: vs, s => if k = s then some v else lkS ks vs s
  | _, _, _ => none
section
variable (C : List PV) (Φ : Nat → List PV → Mem → R PV)
def evE : E → Env → Mem → R PV
  | .k v, _, m => .ok v m
  | .loc i, ρ, m => match ρ[i]? with
    | some (some v) => .ok v m
    | _ => .no
  | .glo i, _, m => lft C[i]? m
  | .bin mu o a b, ρ, m => bnd (evE a ρ m) fun x m => bnd (evE b ρ m) fun y m => binop mu o x y m
  | .neg a, ρ, m => bnd (evE a ρ m) fun x m => match x with
    | .int i => .ok (.int (-i)) m
    | _ => .no
  | .not a, ρ, m => bnd (evE a ρ m) fun x m => lft ((truth m x).map fun b => .bl (!b)) m
  | .and a b, ρ, m => bnd (evE a ρ m) fun x m => match x with
    | .bl true => evE b ρ m
    | .bl false => .ok (.bl false) m
    | _ => .no
  | .or a b, ρ, m => bnd (evE a ρ m) fun x m => match x with
    | .bl true => .ok (.bl true) m
    | .bl false => evE b ρ m
    | _ => .no
  | .cmp c a b, ρ, m => bnd (evE a ρ m) fun x m => bnd (evE b ρ m) fun y m => lft ((cmpop c m x y).map .bl) m
  | .cmp2 c d a b e, ρ, m => bnd (evE a ρ m) fun x m => bnd (evE b ρ m) fun y m => match cmpop c m x y with
    | some true => bnd (evE e ρ m) fun z m => lft ((cmpop d m y z).map .bl) m
    | some false => .ok (.bl false) m
    | none => .no
  | .ite c a b, ρ, m => bnd (evE c ρ m) fun x m => match truth m x with
    | some true => evE a ρ m
    | some false => evE b ρ m
    | none => .no
  | .nil, _, m => .ok (.tup []) m
  | .cons a l, ρ, m => bnd (evE a ρ m) fun x m => bnd (evE l ρ m) fun r m => .ok (.tup (x :: unl r)) m
  | .tup l, ρ, m => bnd (evE l ρ m) fun r m => if (unl r).all PV.isD && decide ((unl r).length ≤ 1000) then .ok (.tup (unl r)) m else .no
  | .lst mu l, ρ, m => bnd (evE l ρ m) fun r m => if (unl r).length ≤ 1000 then mkl mu (unl r) m else .no
  | .ix a b, ρ, m => bnd (evE a ρ m) fun x m => bnd (evE b ρ m) fun y m => lft (item m x y) m
  | .sl a lo hi, ρ, m => bnd (evE a ρ m) fun x m => bnd (evE lo ρ m) fun y m => if (optI y).isSome then bnd (evE hi ρ m) fun z m => lft (slice m x y z) m else .no
  | .rev a, ρ, m => bnd (evE a ρ m) fun x m => match vw m x with
    | .tup l => .ok (.tup l.reverse) m
    | .lst l => .ok (.lst l.reverse) m
    | _ => .no
  | .call f l, ρ, m => bnd (evE l ρ m) fun r m => Φ f (unl r) m
  | .callv f l, ρ, m => bnd (evE f ρ m) fun g m => match g with
    | .fn i => bnd (evE l ρ m) fun r m => Φ i (unl r) m
    | _ => .no
  | .bf mu b l, ρ, m => bnd (evE l ρ m) fun r m => callB mu b (unl r) m
  | .isi a t, ρ, m => bnd (evE a ρ m) fun x m => lft ((isTy m x t).map .bl) m
  | .rng a, ρ, m => bnd (evE a ρ m) fun x m => match x with
    | .int i => if i ≤ (big : Int) ∧ small i = true then .ok (.lst (rangeL 0 i.toNat)) m else .no
    | _ => .no
  | .rng2 a b, ρ, m => bnd (evE a ρ m) fun x m => bnd (evE b ρ m) fun y m => match x, y with
    | .int i, .int j => if j - i ≤ (big : Int) ∧ small i = true ∧ small j = true then .ok (.lst (rangeL i (j - i).toNat)) m else .no
    | _, _ => .no
  | .enu a, ρ, m => bnd (evE a ρ m) fun x m => match x with
    | .lst l => .ok (.lst (enumL 0 l)) m
    | .tup l => .ok (.lst (enumL 0 l)) m
    | _ => .no
  | .zip a b, ρ, m => bnd (evE a ρ m) fun x m => bnd (evE b ρ m) fun y m => match x, y with
    | .tup l, .tup r => .ok (.lst (zipL l r)) m
    | .lst l, .lst r => .ok (.lst (zipL l r)) m
    | .tup l, .lst r => .ok (.lst (zipL l r)) m
    | .lst l, .tup r => .ok (.lst (zipL l r)) m
    | _, _ => .no
  | .zip3 a b c, ρ, m => bnd (evE a ρ m) fun x m => bnd (evE b ρ m) fun y m => bnd (evE c ρ m) fun z m => match x, y, z with
    | .lst l, .lst r, .lst s => .ok (.lst (zipL3 l r s)) m
    | _, _, _ => .no
  | .comp mu own t s c e, ρ, m => bnd (evE s ρ m) fun sv m => match sv with
    | .tup l => bnd (compL (fun x m => match asg t x (wipeP ρ own) with
        | some ρ' => compT (evE c ρ') (evE e ρ') m
        | none => .no) l m) fun vs m => mkl mu vs m
    | .lst l => bnd (compL (fun x m => match asg t x (wipeP ρ own) with
        | some ρ' => compT (evE c ρ') (evE e ρ') m
        | none => .no) l m) fun vs m => mkl mu vs m
    | .cell k => match m[k]? with
      | some l => bnd (compC (fun x m => match asg t x (wipeP ρ own) with
        | some ρ' => compT (evE c ρ') (evE e ρ') m
        | none => .no) k l.length l.length m) fun vs m => mkl mu vs m
      | none => .no
    | _ => .no
  | .app o e, ρ, m => bnd (evE o ρ m) fun x m => match x with
    | .cell k => bnd (evE e ρ m) fun y m => match m[k]? with
      | some l => if l.length < big then .ok .non (m.set k (l ++ [y])) else .no
      | none => .no
    | _ => .no
  | .popl o, ρ, m => bnd (evE o ρ m) fun x m => match x with
    | .cell k => match m[k]? with
      | some l => match l[l.length - 1]? with
        | some y => .ok y (m.set k l.dropLast)
        | none => .no
      | none => .no
    | _ => .no
  | .popi o i, ρ, m => bnd (evE o ρ m) fun x m => match x with
    | .cell k => bnd (evE i ρ m) fun y m => match y with
      | .int i => match m[k]? with
        | some l => match atI l.length i with
          | some j => match l[j]? with
            | some v => .ok v (m.set k (l.eraseIdx j))
            | none => .no
          | none => .no
        | none => .no
      | _ => .no
    | _ => .no
  | .indexc i e, ρ, m => match C[i]? with
    | some (.tup l) => bnd (evE e ρ m) fun y m => match y, strsOf l with
      | .str s, some ss => lft ((ss.findIdx? fun z => z == s).map fun i => .int i) m
      | _, _ => .no
    | _ => .no
  | .index o e, ρ, m => bnd (evE o ρ m) fun x m => match x with
    | .lst l => bnd (evE e ρ m) fun y m => if (vw m y).isD && decide (depAll l ≤ 62) && decide ((vw m y).dep ≤ 62) then lft ((l.findIdx? fun z => z.eqv (vw m y)).map fun i => .int i) m else .no
    | _ => .no
  | .dget ks vs k d, ρ, m => bnd (evE vs ρ m) fun vr m => bnd (evE k ρ m) fun x m => bnd (evE d ρ m) fun y m => match x with
    | .str s => .ok ((lkS ks (unl vr) s).getD y) m
    | _ => .no
  | .tell ws d e, ρ, m => match evE e ρ m with
    | .ok _ m => .ok d.pv m
    | .exc x m => match ws.at x.c with
      | some w => .ok w.pv m
      | none => .no
    | .no => .no
  | .trng a, ρ, m => bnd (evE a ρ m) fun x m => match x with
    | .int i => if i ≤ (big : Int) ∧ small i = true then .ok (.tup (rangeL 0 i.toNat)) m else .no
    | _ => .no
  | .trng2 a b, ρ, m => bnd (evE a ρ m) fun x m => bnd (evE b ρ m) fun y m => match x, y with
    | .int i, .int j => if j - i ≤ (big : Int) ∧ small i = true ∧ small j = true then .ok (.tup (rangeL i (j - i).toNat)) m else .no
    | _, _ => .no
  | .wild, _, _ => .no
def evS : S → Env → Mem → R (Fl × Env)
  | .skip, ρ, m => .ok (.next, ρ) m
  | .seq a b, ρ, m => bnd (evS a ρ m) fun q m => match q.1 with
    | .next => evS b q.2 m
    | f => .ok (f, q.2) m
  | .ex e, ρ, m => bnd (evE C Φ e ρ m) fun _ m => .ok (.next, ρ) m
  | .ret e, ρ, m => bnd (evE C Φ e ρ m) fun v m => .ok (.ret v, ρ) m
  | .asg t e, ρ, m => bnd (evE C Φ e ρ m) fun v m => lft ((asg t v ρ).map fun ρ' => (.next, ρ')) m
  | .par t l, ρ, m => bnd (evE C Φ l ρ m) fun v m => lft ((asg t v ρ).map fun ρ' => (.next, ρ')) m
  | .setix o i e, ρ, m => bnd (evE C Φ e ρ m) fun v m => bnd (evE C Φ o ρ m) fun x m => bnd (evE C Φ i ρ m) fun y m => match x, y with
    | .cell k, .int i => match m[k]? with
      | some l => match atI l.length i with
        | some j => .ok (.next, ρ) (m.set k (l.set j v))
        | none => .no
      | none => .no
    | _, _ => .no
  | .ite c a b, ρ, m => bnd (evE C Φ c ρ m) fun x m => match truth m x with
    | some true => evS a ρ m
    | some false => evS b ρ m
    | none => .no
  | .for_ t s b, ρ, m => bnd (evE C Φ s ρ m) fun sv m => match sv with
    | .tup l => forL (fun x ρ m => match asg t x ρ with
        | some ρ' => evS b ρ' m
        | none => .no) l ρ m
    | .lst l => forL (fun x ρ m => match asg t x ρ with
        | some ρ' => evS b ρ' m
        | none => .no) l ρ m
    | .cell k => match m[k]? with
      | some l => forC (fun x ρ m => match asg t x ρ with
        | some ρ' => evS b ρ' m
        | none => .no) k l.length l.length ρ m
      | none => .no
    | _ => .no
  | .whl c b, ρ, m => whileL (fun ρ m => bnd (evE C Φ c ρ m) fun v m => tstB m v) (fun ρ m => evS b ρ m) turns ρ m
  | .brk, ρ, m => .ok (.brk, ρ) m
  | .cnt, ρ, m => .ok (.cnt, ρ) m
  | .raise c, _, m => .exc ⟨c, .non⟩ m
  | .stop, _, _ => .no
end
def fin (q : Fl × Env) (m : Mem) : R PV := match q.1 with
  | .ret v => .ok v m
  | .next => .ok .non m
  | _ => .no
def run (P : Prg) : Nat → Nat → List PV → Mem → R PV
  | 0, _, _, _ => .no
  | n + 1, f, args, m => match P.fns[f]? with
    | some F => if args.length = F.np then bnd (evS P.con (run P n) F.body (args.map some ++ List.replicate (F.nl - F.np) none) m) fin else .no
    | none => .no
end Pv
namespace Pv
open PySem PySem.Spec PyProof.Rows L2
/-! ## The evaluator is sound: the relations -/
section
variable (K : PySem.W.Frag) (H : Hp)
/-- a list that nobody writes any more -/
def FL (a : Addr) (xs : List V) : Prop := ∃ o, H a = some (.frz o (.lst xs))
mutual
inductive Fz : V → PV → Prop
  | non : Fz .non .non
  | bl (b : Bool) : Fz (.bl b) (.bl b)
  | int (i : Int) : Fz (.int i) (.int i)
  | str (s : List Nat) (ok : PyData.strOk ⟨s.toArray⟩ = true) (sz : s.length ≤ sizeLine) : Fz (.str ⟨s.toArray⟩) (.str s)
  | tup {a : Addr} {xs : List V} {l : List PV} : SqT K H a xs → xs.length ≤ sizeLine → FzAll xs l → Fz (.ref a) (.tup l)
  | lst {a : Addr} {xs : List V} {l : List PV} : FL H a xs → xs.length ≤ sizeLine → FzAll xs l → Fz (.ref a) (.lst l)
inductive FzAll : List V → List PV → Prop
  | nil : FzAll [] []
  | cons {v : V} {vs : List V} {d : PV} {ds : List PV} : Fz v d → FzAll vs ds → FzAll (v :: vs) (d :: ds)
end
end
/-- what is read stays -/
structure Ext (H H' : Hp) : Prop where
  tup : ∀ a xs, H a = some (.tup xs) → H' a = some (.tup xs)
  frz : ∀ a o u, H a = some (.frz o u) → H' a = some (.frz o u)
section
variable {K : PySem.W.Frag} {H H' H2 : Hp}
theorem Ext.refl : Ext H H := ⟨fun _ _ e => e, fun _ _ _ e => e⟩
theorem Ext.trans (a : Ext H H') (b : Ext H' H2) : Ext H H2 := ⟨fun x y e => b.tup x y (a.tup x y e), fun x y z e => b.frz x y z (a.frz x y z e)⟩
theorem Ext.new {p : Addr} {o : HO} (h : H p = none) : Ext H (L2.upd H p o) :=
  ⟨fun a xs e => by rw [upd_ne (ne_of_none e h)]; exact e, fun a o' u e => by rw [upd_ne (ne_of_none e h)]; exact e⟩
theorem Ext.set {p : Addr} {xs : List V} {o : HO} (h : H p = some (.lst xs)) : Ext H (L2.upd H p o) :=
  ⟨fun a ys e => by
    rw [upd_ne (ne_of e h (by intro z; cases z))]; exact e, fun a o' u e => by
    rw [upd_ne (ne_of e h (by intro z; cases z))]; exact e⟩
theorem SqT.ext {a : Addr} {xs : List V} (e : Ext H H') (h : SqT K H a xs) : SqT K H' a xs := by
  rcases h with (h | ⟨o, h⟩) | h
  · exact .inl (.inl (e.tup _ _ h))
  · exact .inl (.inr ⟨o, e.frz _ _ _ h⟩)
  · exact .inr h
theorem FL.ext {a : Addr} {xs : List V} (e : Ext H H') (h : FL H a xs) : FL H' a xs := by
  obtain ⟨o, h⟩ := h
  exact ⟨o, e.frz _ _ _ h⟩
theorem FL.sq {K : PySem.W.Frag} {a : Addr} {xs : List V} (h : FL H a xs) : SqL K H a xs := .inl (.inr h)
mutual
theorem Fz.ext (e : Ext H H') : ∀ {v : V} {d : PV}, Fz K H v d → Fz K H' v d
  | _, _, .non => .non
  | _, _, .bl b => .bl b
  | _, _, .int i => .int i
  | _, _, .str s ok sz => .str s ok sz
  | _, _, .tup h z a => .tup (SqT.ext e h) z (FzAll.ext e a)
  | _, _, .lst h z a => .lst (FL.ext e h) z (FzAll.ext e a)
theorem FzAll.ext (e : Ext H H') : ∀ {vs : List V} {ds : List PV}, FzAll K H vs ds → FzAll K H' vs ds
  | _, _, .nil => .nil
  | _, _, .cons a b => .cons (Fz.ext e a) (FzAll.ext e b)
end
theorem FzAll.length : ∀ {vs : List V} {ds : List PV}, FzAll K H vs ds → vs.length = ds.length
  | _, _, .nil => rfl
  | _, _, .cons _ b => by simp [FzAll.length b]
theorem FzAll.get : ∀ {vs : List V} {ds : List PV} {i : Nat} {d : PV}, FzAll K H vs ds → ds[i]? = some d → ∃ v, vs[i]? = some v ∧ Fz K H v d
  | _, _, _, _, .nil, e => by simp at e
  | _, _, 0, _, .cons r _, e => by simp at e; subst e; exact ⟨_, rfl, r⟩
  | _, _, i + 1, _, .cons _ t, e => by
    obtain ⟨u, h1, h2⟩ := FzAll.get (i := i) t (by simpa using e)
    exact ⟨u, by simpa using h1, h2⟩
theorem FzAll.get' : ∀ {vs : List V} {ds : List PV} {i : Nat} {v : V}, FzAll K H vs ds → vs[i]? = some v → ∃ d, ds[i]? = some d ∧ Fz K H v d
  | _, _, _, _, .nil, e => by simp at e
  | _, _, 0, _, .cons r _, e => by simp at e; subst e; exact ⟨_, rfl, r⟩
  | _, _, i + 1, _, .cons _ t, e => by
    obtain ⟨u, h1, h2⟩ := FzAll.get' (i := i) t (by simpa using e)
    exact ⟨u, by simpa using h1, h2⟩
theorem FzAll.append : ∀ {xs ys : List V} {us ws : List PV}, FzAll K H xs us → FzAll K H ys ws → FzAll K H (xs ++ ys) (us ++ ws)
  | _, _, _, _, .nil, s => s
  | _, _, _, _, .cons r t, s => .cons r (FzAll.append t s)
theorem FzAll.take : ∀ {xs : List V} {us : List PV} (n : Nat), FzAll K H xs us → FzAll K H (xs.take n) (us.take n)
  | _, _, 0, _ => .nil
  | _, _, _ + 1, .nil => .nil
  | _, _, n + 1, .cons r t => .cons r (FzAll.take n t)
theorem FzAll.drop : ∀ {xs : List V} {us : List PV} (n : Nat), FzAll K H xs us → FzAll K H (xs.drop n) (us.drop n)
  | _, _, 0, r => r
  | _, _, _ + 1, .nil => .nil
  | _, _, n + 1, .cons _ t => FzAll.drop n t
theorem FzAll.rep {xs : List V} {us : List PV} (h : FzAll K H xs us) : ∀ n : Nat, FzAll K H (List.replicate n xs).flatten (rep us n)
  | 0 => .nil
  | n + 1 => by
    rw [List.replicate_succ, List.flatten_cons]
    exact FzAll.append h (FzAll.rep h n)
theorem FzAll.reverse {xs : List V} {us : List PV} (h : FzAll K H xs us) : FzAll K H xs.reverse us.reverse := by
  cases h with
  | nil => exact .nil
  | cons a b =>
    rw [List.reverse_cons, List.reverse_cons]
    exact FzAll.append (FzAll.reverse b) (.cons a .nil)
  termination_by us.length
/-! ### to the library's data -/
mutual
def PV.dat : PV → PyData
  | .non => .none
  | .bl b => .bool b
  | .int i => .int i
  | .str s => .str ⟨s.toArray⟩
  | .tup l => .tuple (datAll l)
  | .lst l => .list (datAll l)
  | .cell _ => .none
  | .fn _ => .none
def datAll : List PV → List PyData
  | [] => []
  | x :: l => x.dat :: datAll l
end
mutual
theorem Fz.dp : ∀ {v : V} {d : PV}, Fz K H v d → Dp K H v d.dat
  | _, _, .non => by rw [PV.dat]; exact .non
  | _, _, .bl b => by rw [PV.dat]; exact .bl b
  | _, _, .int i => by rw [PV.dat]; exact .int i
  | _, _, .str s ok sz => by rw [PV.dat]; exact .str _
  | _, _, .tup h z a => by rw [PV.dat]; exact .tup h (FzAll.dp a)
  | _, _, .lst h z a => by rw [PV.dat]; exact .lst h.sq (FzAll.dp a)
theorem FzAll.dp : ∀ {vs : List V} {ds : List PV}, FzAll K H vs ds → DpAll K H vs (datAll ds)
  | _, _, .nil => by rw [datAll]; exact .nil
  | _, _, .cons a b => by rw [datAll]; exact .cons (Fz.dp a) (FzAll.dp b)
end
mutual
theorem Fz.lay : ∀ {v : V} {d : PV}, Fz K H v d → d.dat.canLay0 = true
  | _, _, .non => by simp [PV.dat, PyData.canLay0]
  | _, _, .bl b => by simp [PV.dat, PyData.canLay0]
  | _, _, .int i => by simp [PV.dat, PyData.canLay0]
  | _, _, .str s ok sz => by simp only [PV.dat, PyData.canLay0]; exact ok
  | _, _, .tup h z a => by simp only [PV.dat, PyData.canLay0]; exact FzAll.lay a
  | _, _, .lst h z a => by simp only [PV.dat, PyData.canLay0]; exact FzAll.lay a
theorem FzAll.lay : ∀ {vs : List V} {ds : List PV}, FzAll K H vs ds → PyData.canLayAll0 (datAll ds) = true
  | _, _, .nil => by simp [datAll, PyData.canLayAll0]
  | _, _, .cons a b => by simp only [datAll, PyData.canLayAll0, Fz.lay a, FzAll.lay b, Bool.and_self]
end
mutual
theorem dat_dep : ∀ d : PV, d.dat.depth = d.dep
  | .non => by simp [PV.dat, PyData.depth, PV.dep]
  | .bl b => by simp [PV.dat, PyData.depth, PV.dep]
  | .int b => by simp [PV.dat, PyData.depth, PV.dep]
  | .str b => by simp [PV.dat, PyData.depth, PV.dep]
  | .tup l => by simp only [PV.dat, PyData.depth, PV.dep, dat_depAll l]
  | .lst l => by simp only [PV.dat, PyData.depth, PV.dep, dat_depAll l]
  | .cell b => by simp [PV.dat, PyData.depth, PV.dep]
  | .fn b => by simp [PV.dat, PyData.depth, PV.dep]
theorem dat_depAll : ∀ l : List PV, PyData.depthAll (datAll l) = depAll l
  | [] => by simp [datAll, PyData.depthAll, depAll]
  | x :: l => by simp only [datAll, PyData.depthAll, depAll, dat_dep x, dat_depAll l]
end
theorem str_beq' (a b : List Nat) : ((⟨a.toArray⟩ : Str) == ⟨b.toArray⟩) = (a == b) := by
  rw [Bool.eq_iff_iff, beq_iff_eq, beq_iff_eq]
  constructor
  · intro h
    have h2 : a.toArray = b.toArray := by injection h
    simpa using congrArg Array.toList h2
  · intro h; rw [h]
mutual
theorem eqv_dat : ∀ {v w : V} {d e : PV}, Fz K H v d → Fz K H w e → PyData.eqv d.dat e.dat = d.eqv e
  | _, _, _, _, .non, b => by cases b <;> simp [PV.dat, PyData.eqv, PV.eqv]
  | _, _, _, _, .bl _, b => by cases b <;> simp [PV.dat, PyData.eqv, PV.eqv, b2]
  | _, _, _, _, .int _, b => by cases b <;> simp [PV.dat, PyData.eqv, PV.eqv, b2]
  | _, _, _, _, .str s _ _, b => by
    cases b with
    | str t _ _ => simp only [PV.dat, PyData.eqv, PV.eqv, str_beq']
    | _ => simp [PV.dat, PyData.eqv, PV.eqv]
  | _, _, _, _, .tup _ _ a, b => by
    cases b with
    | tup _ _ b => simp only [PV.dat, PyData.eqv, PV.eqv]; exact eqv_datAll a b
    | _ => simp [PV.dat, PyData.eqv, PV.eqv]
  | _, _, _, _, .lst _ _ a, b => by
    cases b with
    | lst _ _ b => simp only [PV.dat, PyData.eqv, PV.eqv]; exact eqv_datAll a b
    | _ => simp [PV.dat, PyData.eqv, PV.eqv]
theorem eqv_datAll : ∀ {vs ws : List V} {ds es : List PV}, FzAll K H vs ds → FzAll K H ws es → PyData.eqvAll (datAll ds) (datAll es) = eqvAll ds es
  | _, _, _, _, .nil, b => by cases b <;> simp [datAll, PyData.eqvAll, eqvAll]
  | _, _, _, _, .cons a as, b => by
    cases b with
    | nil => simp [datAll, PyData.eqvAll, eqvAll]
    | cons b bs => simp only [datAll, PyData.eqvAll, eqvAll, eqv_dat a b, eqv_datAll as bs]
end
end
end Pv
namespace Pv
open PySem PySem.Spec PyProof.Rows L2
/-! ## Sets of tuples of ints, nested -/
mutual
def numB : NestedKey → Bool
  | .num _ => true
  | .tup ks => numAll ks
  | _ => false
def numAll : List NestedKey → Bool
  | [] => true
  | k :: ks => numB k && numAll ks
end
/-- at a stands the tuple k -/
structure NIs (h : Heap) (k : NestedKey) (a : Addr) : Prop where
  is : NestedIs h k (.ref a)
  dp : k.depth ≤ 8
  nb : numB k = true
section
variable {P : Program} {w : World}
/-- what a question about a value answers, whatever stands around -/
def Ans (P : Program) (w : World) (f : Value → Sem Bool) (b : Bool) (s : Shared) (v : Value) : Prop := ∀ (A : Around) (E : Value → Shared → Prop) (Q : Bool → Shared → Prop), Q b s → wpAny (model P w) A (f v) Q E s
mutual
theorem ofA_key : ∀ (k : NestedKey) (v : Value) (n : Nat) (s : Shared), NestedIs s.heap k v → k.depth ≤ n → numB k = true → Ans P w (ofAClassStatement n) false s v
  | .none, _, _, _, _, _, hb => by cases hb
  | .text _, _, _, _, _, _, hb => by cases hb
  | .num i, _, n, s, x, _, _ => fun A E Q q => by
    have e : ofAClassStatement n ‹Value› = pure false := by cases x <;> cases n <;> rfl
    rw [e]
    exact wpAny_pure q
  | .tup ks, _, n, s, x, hn, hb => fun A E Q q => by
    cases x with
    | tup hg hc hd hk =>
      simp only [NestedKey.depth] at hn
      cases n with
      | zero => omega
      | succ n =>
        have ih := ofA_keys ks _ n s hk (by omega) (by simpa only [numB] using hb)
        unfold ofAClassStatement
        refine wpAny_bind (wpAny_typeOf ⟨_, hg, hc⟩ ?_)
        simp only [show (("tuple" : String) == "tuple") = true by decide, if_true, Bool.not_true, Bool.false_eq_true, if_false]
        refine wpAny_bind (wpAny_pure ?_)
        simp only [Bool.not_true, Bool.false_eq_true, if_false]
        try refine wpAny_bind (wpAny_pure ?_)
        refine wpAny_bind (wpAny_seqItems hg hd ?_)
        dsimp only
        rw [← Array.forIn_toList]
        refine wpAny_bind (wpAny_forIn_list _ (fun rest r s' => r.1 = none ∧ s' = s ∧ ∀ v ∈ rest, Ans P w (ofAClassStatement n) false s v) _ ?_ ?_ _ _ ⟨rfl, rfl, ih⟩)
        · rintro v rest r s' ⟨_, rfl, all⟩
          refine wpAny_bind (all v (by simp) _ _ _ ?_)
          simp only [Bool.false_eq_true, if_false]
          exact wpAny_pure ⟨rfl, rfl, fun u hu => all u (by simp [hu])⟩
        · rintro ⟨r1, r2⟩ s' ⟨h1, rfl, _⟩
          have h1 : r1 = none := h1
          subst h1
          exact wpAny_pure q
theorem ofA_keys : ∀ (ks : List NestedKey) (vs : List Value) (n : Nat) (s : Shared), NestedAll s.heap ks vs → NestedKey.depthAll ks ≤ n → numAll ks = true → ∀ v ∈ vs, Ans P w (ofAClassStatement n) false s v
  | [], _, _, _, x, _, _, v, hv => by cases x; cases hv
  | k :: ks, _, n, s, x, hn, hb, v, hv => by
    cases x with
    | cons x1 x2 =>
      simp only [NestedKey.depthAll] at hn
      simp only [numAll, Bool.and_eq_true] at hb
      rcases List.mem_cons.mp hv with rfl | hv
      · exact ofA_key k _ n s x1 (by omega) hb.1
      · exact ofA_keys ks _ n s x2 (by omega) hb.2 v hv
end
mutual
theorem byV_key : ∀ (k : NestedKey) (v : Value) (n : Nat) (s : Shared), NestedIs s.heap k v → k.depth ≤ n → numB k = true → Ans P w (hashByValue n) true s v
  | .none, _, _, _, _, _, hb => by cases hb
  | .text _, _, _, _, _, _, hb => by cases hb
  | .num i, _, n, s, x, _, _ => fun A E Q q => by
    have e : hashByValue n ‹Value› = pure true := by cases x <;> cases n <;> rfl
    rw [e]
    exact wpAny_pure q
  | .tup ks, _, n, s, x, hn, hb => fun A E Q q => by
    cases x with
    | tup hg hc hd hk =>
      simp only [NestedKey.depth] at hn
      cases n with
      | zero => omega
      | succ n =>
        have ih := byV_keys ks _ n s hk (by omega) (by simpa only [numB] using hb)
        unfold hashByValue
        refine wpAny_bind (wpAny_specialOf ⟨_, hg, hc⟩ F.slot_tuple_hash.lookup ?_)
        refine wpAny_bind (m := seqItems? _) (wpAny_seqItems hg hd ?_)
        show wpAny _ _ (forIn _ _ _ >>= _) _ _ s
        rw [← Array.forIn_toList]
        refine wpAny_bind (wpAny_forIn_list _ (fun rest r s' => r.1 = none ∧ s' = s ∧ ∀ v ∈ rest, Ans P w (hashByValue n) true s v) _ ?_ ?_ _ _ ⟨rfl, rfl, ih⟩)
        · rintro v rest r s' ⟨_, rfl, all⟩
          refine wpAny_bind (all v (by simp) _ _ _ ?_)
          simp only [Bool.not_true, Bool.false_eq_true, if_false]
          exact wpAny_pure ⟨rfl, rfl, fun u hu => all u (by simp [hu])⟩
        · rintro ⟨r1, r2⟩ s' ⟨h1, rfl, _⟩
          have h1 : r1 = none := h1
          subst h1
          exact wpAny_pure q
theorem byV_keys : ∀ (ks : List NestedKey) (vs : List Value) (n : Nat) (s : Shared), NestedAll s.heap ks vs → NestedKey.depthAll ks ≤ n → numAll ks = true → ∀ v ∈ vs, Ans P w (hashByValue n) true s v
  | [], _, _, _, x, _, _, v, hv => by cases x; cases hv
  | k :: ks, _, n, s, x, hn, hb, v, hv => by
    cases x with
    | cons x1 x2 =>
      simp only [NestedKey.depthAll] at hn
      simp only [numAll, Bool.and_eq_true] at hb
      rcases List.mem_cons.mp hv with rfl | hv
      · exact byV_key k _ n s x1 (by omega) hb.1
      · exact byV_keys ks _ n s x2 (by omega) hb.2 v hv
end
/-- a search among tuples shows nothing -/
theorem unseen {A : Around} {E : Value → Shared → Prop} {s : Shared} {k : NestedKey} {b : Addr} {Q : Bool → Shared → Prop} (x : NIs s.heap k b) {ys : List Value} (hy : ∀ y ∈ ys, ∃ k' c, y = Value.ref c ∧ NIs s.heap k' c) (q : Q false s) :
    wpAny (model P w) A (searchCouldBeSeen (.ref b) ys) Q E s := by
  unfold searchCouldBeSeen
  refine wpAny_bind (wpAny_forIn_list _ (fun rest r s' => r.1 = none ∧ s' = s ∧ ∀ y ∈ rest, ∃ k' c, y = Value.ref c ∧ NIs s.heap k' c) _ ?_ ?_ _ _ ⟨rfl, rfl, hy⟩)
  · rintro v rest r s' ⟨_, rfl, all⟩
    obtain ⟨k', c, rfl, y⟩ := all v (by simp)
    have more : ∀ y ∈ rest, ∃ k' c, y = Value.ref c ∧ NIs s'.heap k' c := fun u hu => all u (by simp [hu])
    dsimp only
    by_cases same : (b == c || (carriedByValue (.ref b) && carriedByValue (.ref c))) = true
    · exact wp_if_pos same (wpAny_pure ⟨rfl, rfl, more⟩)
    · refine wp_if_neg same (wpAny_bind (quiet_key k _ 8 _ x.is x.dp _ _ _ ?_))
      simp only [Bool.not_true, Bool.false_eq_true, if_false]
      refine wpAny_bind (quiet_key k' _ 8 _ y.is y.dp _ _ _ ?_)
      simp only [Bool.not_true, Bool.false_eq_true, if_false]
      refine wpAny_bind (ofA_key k _ 8 _ x.is x.dp x.nb _ _ _ ?_)
      simp only [Bool.false_eq_true, if_false]
      refine wpAny_bind (ofA_key k' _ 8 _ y.is y.dp y.nb _ _ _ ?_)
      simp only [Bool.false_eq_true, if_false]
      exact wpAny_pure ⟨rfl, rfl, more⟩
  · rintro ⟨r1, r2⟩ s' ⟨h1, rfl, _⟩
    have h1 : r1 = none := h1
    subst h1
    exact wpAny_pure q
end
end Pv
namespace Pv
open PySem PySem.Spec PyProof.Rows L2
def enr (w : World) (q : Addr × NestedKey) : Int × Value := (q.2.hash w, .ref q.1)
abbrev hsh (w : World) (q : Addr × NestedKey) : Int := q.2.hash w
/-- at a stands the set of the tuples L -/
structure NSet (w : World) (h : Heap) (a : Addr) (L : List (Addr × NestedKey)) (es : Array (Int × Value)) (t : SetTable) : Prop where
  ob : ∃ o ep, h.get? a = some o ∧ o.ExactSet ∧ o.data = .set es ep t
  rows : es.toList = L.map (enr w)
  tab : TabOk t (L.map (hsh w))
  nd : (L.map (·.2)).Nodup
  each : ∀ q ∈ L, NIs h q.2 q.1
  plain : t.plain = true
  led : w.params.followText "set-order" = true ∨ t.led = true
  room : L.length * 5 < t.mask * 3
  few : L.length < 64
/-- the way of a hash, step by step -/
abbrev stp (t : SetTable) (H : Int) (c : Nat) : SetTable.Probe := nth t.mask (runAt t.mask (SetTable.bits H % (t.mask + 1)) (SetTable.bits H)) c
theorem stp_dummy (t : SetTable) (H : Int) (c : Nat) : (stp t H c).dummy = none := by
  have key : ∀ (n : Nat) (p : SetTable.Probe), p.dummy = none → (nth t.mask p n).dummy = none := by
    intro n
    induction n with
    | zero => exact fun p e => e
    | succ n ih =>
      refine fun p e => ih (adv t.mask p) ?_
      unfold adv
      split <;> exact e
  exact key c _ rfl
theorem stp_add (t : SetTable) (H : Int) (c q : Nat) : nth t.mask (stp t H c) q = stp t H (c + q) := (nth_add t.mask c _ q).symm
section
variable {P : Program} {w : World} {A : Around} {E : Value → Shared → Prop} {s : Shared} {a x : Addr} {L : List (Addr × NestedKey)} {es : Array (Int × Value)} {t : SetTable} {k : NestedKey}
theorem NSet.size {h : Heap} (R : NSet w h a L es t) : es.size = L.length := by
  rw [← Array.length_toList, R.rows, List.length_map]
theorem NSet.fits {h : Heap} (R : NSet w h a L es t) : t.fits es.size = true := by
  have h1 := R.tab.sz
  have h2 := R.size
  have h3 := R.room
  rw [List.length_map] at h1
  unfold SetTable.fits SetTable.fill
  rw [R.tab.dm, Bool.and_eq_true, beq_iff_eq, decide_eq_true_eq]
  show t.place.size = es.size ∧ t.place.size + 0 ≤ t.mask
  omega
theorem rows_at (hr : es.toList = L.map (enr w)) {i : Nat} {q : Addr × NestedKey} (h : L[i]? = some q) : es[i]? = some (enr w q) := by
  rw [← Array.getElem?_toList, hr, List.getElem?_map, h]
  rfl
theorem NSet.odd {h : Heap} (R : NSet w h a L es t) : ¬ t.gaveWay = true := by
  unfold SetTable.gaveWay
  rw [mask_odd R.tab.mok]
  decide
theorem NSet.hashAt {h : Heap} (R : NSet w h a L es t) {i : Nat} {q : Addr × NestedKey} (e : L[i]? = some q) : (es[i]?.map (·.1)).getD 0 = q.2.hash w := by
  rw [rows_at R.rows e]
  rfl
theorem NSet.ix {h : Heap} (R : NSet w h a L es t) {i j : Nat} (e : t.place.toList[i]? = some j) : ∃ q, L[i]? = some q ∧ q ∈ L := by
  have h1 := (List.getElem?_eq_some_iff.mp e).1
  have h2 := R.tab.sz
  rw [List.length_map] at h2
  rw [Array.length_toList] at h1
  have hi : i < L.length := by omega
  exact ⟨L[i], List.getElem?_eq_getElem hi, List.getElem_mem hi⟩
/-- the search, from a step of the way on -/
theorem srch (R : NSet w s.heap a L es t) (hx : NIs s.heap k x) (hu : A.units + 8 < cLine) {K : Nat} (hKf : K < 10 * SetTable.turns t.mask) (hK : way t.mask (k.hash w) K ∉ t.place.toList) (hKb : ∀ c, c < K → way t.mask (k.hash w) c ∈ t.place.toList)
    {Q : SetFound → Shared → Prop} (hin : k ∈ L.map (·.2) → Q (.there none) s) (hout : k ∉ L.map (·.2) → Q (.free (way t.mask (k.hash w) K) false) s) :
    ∀ (f c : Nat) (stand : Option SetTable.Probe), stand.getD (t.probeStart (k.hash w)) = stp t (k.hash w) c → c ≤ K → K - c < f →
      (∀ (i : Nat) q, L[i]? = some q → q.2 = k → ∃ c', c ≤ c' ∧ c' < K ∧ t.place.toList[i]? = some (way t.mask (k.hash w) c')) →
      wpAny (model P w) A (setSearchFrom a (.ref x) (k.hash w) true f stand) Q E s := by
  intro f
  induction f with
  | zero => exact fun c stand _ _ hf _ => absurd hf (Nat.not_lt_zero _)
  | succ f ih =>
    intro c stand hst hc hf ahead
    obtain ⟨o, ep, ho, hex, hd⟩ := R.ob
    rw [L2.setSearchFrom_succ]
    refine wpAny_bind (wpAny_setState_of ho hd R.fits ?_)
    dsimp only
    refine wp_if_neg R.odd ?_
    try refine wpAny_bind (wpAny_pure ?_)
    have e1 : ∀ q, (nth t.mask (stp t (k.hash w) c) q).j = way t.mask (k.hash w) (c + q) := fun q => congrArg SetTable.Probe.j (stp_add t (k.hash w) c q)
    have spec := go_spec t R.tab.ris R.tab.dm (fun i => (es[i]?.map (·.1)).getD 0) (k.hash w) (10 * SetTable.turns t.mask) (K - c) (stp t (k.hash w) c) (stp_dummy t _ c) (by omega)
      (fun q hq => by rw [e1]; exact hKb (c + q) (by omega)) (by rw [e1, show c + (K - c) = K by omega]; exact hK)
    rw [← hst] at spec
    rcases spec with ⟨q, i, hq, hi, hh, hno, hpr⟩ | ⟨hno, hpr⟩
    · have hpr : t.probe (fun i => (es[i]?.map (·.1)).getD 0) (k.hash w) (stand.getD (t.probeStart (k.hash w))) = _ := hpr
      rw [hpr]
      dsimp only
      rw [hst] at hi hno ⊢
      rw [e1] at hi
      obtain ⟨p, hp, hm⟩ := R.ix hi
      have pn := R.each p hm
      have goal : wpAny (model P w) A (L2.searchRest a (.ref x) (k.hash w) true f es t (nth t.mask (stp t (k.hash w) c) q).j i (nth t.mask (stp t (k.hash w) c) (q + 1))) Q E s := by
        rw [e1, stp_add]
        unfold L2.searchRest
        rw [rows_at R.rows hp]
        dsimp only [enr]
        refine wpAny_bind (wpAny_holding ((nestedKind P w).eqBool (x := p.2) (y := k) hu ⟨pn.is, pn.dp⟩ ⟨hx.is, hx.dp⟩ ?_))
        refine wpAny_bind (wpAny_setState_of ho hd R.fits ?_)
        dsimp only
        by_cases hk : p.2 = k
        · exact wp_if_pos (by simp [hk]) (wpAny_pure (hin (List.mem_map.mpr ⟨p, hm, hk⟩)))
        · refine wp_if_neg (by simp [hk]) ?_
          try refine wpAny_bind (wpAny_pure ?_)
          have mem : t.sameMemory t.moves t.mask = some true := by
            unfold SetTable.sameMemory
            rw [if_pos (beq_self_eq_true _)]
          have live := slot_live R.tab.ris hi
          rw [mem]
          dsimp only
          simp only [if_true, live, rows_at R.rows hp, enr]
          refine wpAny_bind (wpAny_isSame_ref_self (wpAny_bind (wpAny_pure ?_)))
          simp only [if_true]
          refine wp_if_neg (by simp [hk]) ?_
          refine ih (c + (q + 1)) _ rfl (by omega) (by omega) fun i0 p0 h0 hk0 => ?_
          obtain ⟨c', a1, a2, a3⟩ := ahead i0 p0 h0 hk0
          refine ⟨c', ?_, a2, a3⟩
          by_cases z : c' < c + q
          · refine absurd ?_ (hno (c' - c) i0 (by omega) (by rw [e1, show c + (c' - c) = c' by omega]; exact a3))
            rw [R.hashAt h0, hk0]
          · by_cases z2 : c' = c + q
            · rw [z2] at a3
              have l2 := slot_live R.tab.ris a3
              rw [live] at l2
              injection l2 with l2
              rw [← l2, hp] at h0
              cases h0
              exact absurd hk0 hk
            · omega
      by_cases hl : t.led = true
      · refine wp_if_neg (by simp [hl]) ?_
        try refine wpAny_bind (wpAny_pure ?_)
        exact goal
      · refine wp_if_pos (by simp [hl]) (wpAny_bind (unseen hx (fun y hy => ?_) ?_))
        · obtain ⟨e, he, rfl⟩ := List.mem_map.mp hy
          have he1 : e ∈ es ∧ e.1 = k.hash w := by simpa using he
          have he2 : e ∈ es.toList := by simpa using he1.1
          rw [R.rows] at he2
          obtain ⟨p2, m2, rfl⟩ := List.mem_map.mp he2
          exact ⟨p2.2, p2.1, rfl, R.each p2 m2⟩
        · refine wp_if_neg (by decide) ?_
          try refine wpAny_bind (wpAny_pure ?_)
          exact goal
    · have hpr : t.probe (fun i => (es[i]?.map (·.1)).getD 0) (k.hash w) (stand.getD (t.probeStart (k.hash w))) = _ := hpr
      rw [hpr]
      dsimp only
      rw [hst, e1, show c + (K - c) = K by omega]
      refine wpAny_pure (hout fun hm => ?_)
      obtain ⟨p0, h0, hk0⟩ := List.mem_map.mp hm
      obtain ⟨i0, hi0, e0⟩ := List.getElem_of_mem h0
      have h00 : L[i0]? = some p0 := by rw [List.getElem?_eq_getElem hi0, e0]
      obtain ⟨c', a1, a2, a3⟩ := ahead i0 p0 h00 hk0
      refine absurd ?_ (hno (c' - c) i0 (by omega) (by rw [hst, e1, show c + (c' - c) = c' by omega]; exact a3))
      rw [R.hashAt h00, hk0]
/-- the search as adding asks for it -/
theorem srch_at (R : NSet w s.heap a L es t) (hx : NIs s.heap k x) (hu : A.units + 8 < cLine) {Q : SetFound → Shared → Prop} (hin : k ∈ L.map (·.2) → Q (.there none) s)
    (hout : ∀ K, k ∉ L.map (·.2) → way t.mask (k.hash w) K ∉ t.place.toList → (∀ c, c < K → way t.mask (k.hash w) c ∈ t.place.toList) → Q (.free (way t.mask (k.hash w) K) false) s) :
    wpAny (model P w) A (setSearch a (.ref x) (k.hash w) true) Q E s := by
  have hroom := R.room
  obtain ⟨K, hKf, hK, hKb⟩ := R.tab.first (by rw [List.length_map]; omega) (k.hash w)
  have big : K < 100000 := by
    unfold SetTable.turns at hKf
    rcases R.tab.mok with e | e | e <;> omega
  unfold setSearch
  refine srch R hx hu hKf hK hKb hin (fun hn => hout K hn hK hKb) 100000 0 none rfl (Nat.zero_le _) (by omega) fun i q hq hk => ?_
  have e1 : (L.map (hsh w))[i]? = some (k.hash w) := by rw [List.getElem?_map, hq, ← hk]; rfl
  have hil : i < t.place.toList.length := by
    have h1 := (List.getElem?_eq_some_iff.mp hq).1
    have h2 := R.tab.sz
    rw [List.length_map] at h2
    rw [Array.length_toList]
    omega
  obtain ⟨c, hc, e⟩ := R.tab.before hK e1 (List.getElem?_eq_getElem hil)
  exact ⟨c, Nat.zero_le _, hc, by rw [List.getElem?_eq_getElem hil, e]⟩
end
end Pv
namespace Pv
open PySem PySem.Spec PyProof.Rows L2
section
variable {P : Program} {w : World} {A : Around} {E : Value → Shared → Prop} {s : Shared} {a x : Addr} {L : List (Addr × NestedKey)} {es : Array (Int × Value)} {t : SetTable} {k : NestedKey}
/-- what stays while the sequences stay -/
theorem NIs.at {h h' : Heap} (st : ∀ b o vs n, h.get? b = some o → o.data = .seq vs n → h'.get? b = some o) (y : NIs h k x) : NIs h' k x := ⟨NestedIs.at st _ _ y.is, y.dp, y.nb⟩
theorem NIs.but {h h' : Heap} {o : Obj} {ep : Nat} (y : NIs h k x) (ho : h.get? a = some o) (hd : o.data = .set es ep t) (sb : Heap.SameBut a h h') : NIs h' k x := y.at fun b u vs n e d => by
  refine (sb.2 b ?_).trans e
  rintro rfl
  rw [ho] at e
  cases e
  rw [hd] at d
  cases d
theorem NIs.keep {h h' : Heap} (st : ∀ b o, h.get? b = some o → h'.get? b = some o) (y : NIs h k x) : NIs h' k x := y.at fun b o _ _ e _ => st b o e
/-- entries taken in some order -/
theorem taken (hr : es.toList = L.map (enr w)) : ∀ l : List Nat, (∀ i ∈ l, i < L.length) →
    l.filterMap (fun i => es[i]?) = (l.filterMap fun i => L[i]?).map (enr w) ∧ ((l.filterMap fun i => L[i]?).map (hsh w)) = l.map fun i => (es.map (·.1)).getD i 0
  | [], _ => ⟨rfl, rfl⟩
  | i :: l, hl => by
    obtain ⟨e1, e2⟩ := taken hr l fun j hj => hl j (by simp [hj])
    obtain ⟨q, hi⟩ : ∃ q, L[i]? = some q := ⟨_, List.getElem?_eq_getElem (hl i (by simp))⟩
    have he := rows_at hr hi
    rw [List.filterMap_cons_some he, List.filterMap_cons_some hi, List.map_cons, List.map_cons, List.map_cons, e1, e2]
    refine ⟨rfl, ?_⟩
    have e3 : (es.map (·.1))[i]? = some (hsh w q) := by rw [Array.getElem?_map, he]; rfl
    simp [Array.getD_eq_getD_getElem?, e3]
theorem all_taken {α : Type} (L : List α) : (List.range L.length).filterMap (fun i => L[i]?) = L := by
  have key : ∀ n, n ≤ L.length → (List.range n).filterMap (fun i => L[i]?) = L.take n := by
    intro n
    induction n with
    | zero => exact fun _ => rfl
    | succ n ih =>
      intro hn
      rw [List.range_succ, List.filterMap_append, ih (by omega), List.take_succ, List.getElem?_eq_getElem (show n < L.length by omega), List.filterMap_cons_some (List.getElem?_eq_getElem (show n < L.length by omega))]
      rfl
  rw [key _ (Nat.le_refl _), List.take_length]
/-- the table laid anew -/
theorem relay {o : Obj} {ep : Nat} (ho : s.heap.get? a = some o) (hex : o.ExactSet) (hd : o.data = .set es ep t) (hr : es.toList = L.map (enr w)) (hsz : t.place.size = es.size) (hdm : t.dummies = #[]) (hfl : es.size ≤ t.mask)
    (nd : (L.map (·.2)).Nodup) (each : ∀ q ∈ L, NIs s.heap q.2 q.1) (pl : t.plain = true) (ld : w.params.followText "set-order" = true ∨ t.led = true) (few : L.length < 64) {wanted M : Nat}
    (hw : SetTable.sizeAbove wanted - 1 = M) (hM : MaskOk M) (hw2 : SetTable.sizeAbove wanted ≤ 128) (hn : L.length * 5 < M * 3) {Q : Unit → Shared → Prop}
    (q : ∀ h' L' es' t', Heap.SameBut a s.heap h' → NSet w h' a L' es' t' → L'.Perm L → Q () { s with heap := h' }) : wpAny (model P w) A (setRelay a wanted) Q E s := by
  have hsl : es.size = L.length := by rw [← Array.length_toList, hr, List.length_map]
  have hfits : t.fits es.size = true := by
    unfold SetTable.fits SetTable.fill
    rw [hdm, Bool.and_eq_true, beq_iff_eq, decide_eq_true_eq]
    show t.place.size = es.size ∧ t.place.size + 0 ≤ t.mask
    omega
  obtain ⟨t', order, e, hp, T, em, el, epl, ed⟩ := relaid_ok t (hs := es.map (·.1)) (wanted := wanted) hw hM (by rw [Array.size_map, hsl]; omega)
  rw [Array.size_map, hsl] at hp
  obtain ⟨r1, r2⟩ := taken hr order.toList fun i hi => List.mem_range.mp (hp.mem_iff.mp hi)
  have pm : (order.toList.filterMap fun i => L[i]?).Perm L := by
    have := hp.filterMap fun i => L[i]?
    rwa [all_taken] at this
  have r1' : (order.filterMap (es[·]?)).toList = (order.toList.filterMap fun i => L[i]?).map (enr w) := by rw [← r1]; simp
  rw [← r2] at T
  rw [L2.setRelay_eq]
  refine wpAny_bind (wpAny_setState_of ho hd hfits ?_)
  dsimp only
  refine wp_if_neg (by rw [sizeLine_eq]; omega) ?_
  try refine wpAny_bind (wpAny_pure ?_)
  rw [e]
  dsimp only
  generalize (order.toList.filterMap fun i => L[i]?) = N2 at r1' pm T
  generalize (order.filterMap (es[·]?)) = es2 at r1' ⊢
  have hs2 : es2.size = es.size := by rw [← Array.length_toList, r1', List.length_map, pm.length_eq, hsl]
  refine wpAny_bind (wp_if_neg (by rw [hs2]; simp) ?_)
  try refine wpAny_bind (wpAny_pure ?_)
  refine wpAny_pure ?_
  dsimp only
  refine wpAny_storeSet_of ho hd ?_ (by rw [hs2, hsl, sizeLine_eq]; omega)
  have sb : Heap.SameBut a s.heap (s.heap.update a (Obj.putSet es2 t')) := Heap.SameBut.update ..
  refine q _ N2 es2 t' sb ⟨⟨_, _, store_at ho hd, ⟨hex.1, hex.2.1, hex.2.2⟩, rfl⟩, r1', T, (pm.map (·.2)).nodup_iff.mpr nd, fun p hp => (each p (pm.mem_iff.mp hp)).but ho hd sb, by rw [epl]; exact pl, by rw [el]; exact ld, by rw [pm.length_eq, em]; exact hn, by rw [pm.length_eq]; exact few⟩ pm
theorem ins_perm {α : Type} (L : List α) (p : Nat) (x : α) : (L.take p ++ x :: L.drop p).Perm (x :: L) := by
  have h : (L.take p ++ x :: L.drop p).Perm (x :: (L.take p ++ L.drop p)) := List.perm_middle
  rwa [List.take_append_drop] at h
/-- one more -/
theorem addN (R : NSet w s.heap a L es t) (hx : NIs s.heap k x) (hu : A.units + 8 < cLine) (few : L.length + 1 < 64) {Q : Bool → Shared → Prop}
    (q : ∀ b h' L' es' t', Heap.SameBut a s.heap h' → NSet w h' a L' es' t' → (k ∈ L.map (·.2) → L' = L) → (k ∉ L.map (·.2) → L'.Perm ((x, k) :: L)) → Q b { s with heap := h' }) :
    wpAny (model P w) A (setAddHashed a (.ref x) (k.hash w)) Q E s := by
  obtain ⟨o, ep, ho, hex, hd⟩ := R.ob
  have hsl := R.size
  have hroom := R.room
  unfold setAddHashed
  refine wpAny_holding ?_
  rw [show (100000 : Nat) = 99999 + 1 from rfl, L2.setAddHashedIn_succ]
  refine wpAny_bind (wpAny_setState_of ho hd R.fits ?_)
  dsimp only
  refine wp_if_neg (by simp [byScan, Value.scannable]) ?_
  try refine wpAny_bind (wpAny_pure ?_)
  refine wpAny_bind (srch_at R hx hu (fun hm => ?_) fun K hm hK hb => ?_)
  · dsimp only
    exact wpAny_pure (q false s.heap L es t (Heap.SameBut.refl a s.heap) R (fun _ => rfl) fun z => absurd hm z)
  · dsimp only
    refine wpAny_bind (wpAny_setState_of ho hd R.fits ?_)
    dsimp only
    obtain ⟨q1, q2, q3, q4, q5, q6, q7, q8, q9⟩ := R.tab.put hK hb
    have pl : (t.put (way t.mask (k.hash w) K)).1.plain = true := by rw [q6]; exact R.plain
    generalize hpt : t.put (way t.mask (k.hash w) K) = pt at q1 q3 q4 q5 q6 q7 q8 q9 pl ⊢
    obtain ⟨t1, p⟩ := pt
    dsimp only at q1 q3 q4 q5 q6 q7 q8 q9 pl ⊢
    subst q1
    first
      | (refine wpAny_bind ?_; refine wp_if_pos pl ?_; refine byV_key k _ 8 _ hx.is hx.dp hx.nb _ _ _ ?_)
      | refine wp_if_pos pl (wpAny_bind (byV_key k _ 8 _ hx.is hx.dp hx.nb _ _ _ ?_))
    simp only [if_true]
    generalize SetTable.below t.place (way t.mask (k.hash w) K) = p at q2 q3 ⊢
    have pm := ins_perm L p (x, k)
    have hr1 : (SetTable.insertAt es p (k.hash w, Value.ref x)).toList = (L.take p ++ (x, k) :: L.drop p).map (enr w) := by
      rw [SetTable.toList_insertAt, R.rows, List.map_append, List.map_cons, List.map_take, List.map_drop]
      rfl
    have hh : (L.map (hsh w)).take p ++ k.hash w :: (L.map (hsh w)).drop p = (L.take p ++ (x, k) :: L.drop p).map (hsh w) := by rw [List.map_append, List.map_cons, List.map_take, List.map_drop]
    rw [hh] at q3
    generalize L.take p ++ (x, k) :: L.drop p = L1 at pm hr1 q3
    generalize SetTable.insertAt es p (k.hash w, Value.ref x) = es1 at hr1 ⊢
    have hlen : L1.length = L.length + 1 := pm.length_eq
    have hes : es1.size = L.length + 1 := by rw [← Array.length_toList, hr1, List.length_map, hlen]
    have nd1 : (L1.map (·.2)).Nodup := (pm.map (·.2)).nodup_iff.mpr (List.nodup_cons.mpr ⟨hm, R.nd⟩)
    refine wpAny_bind (wpAny_storeSet_of ho hd ?_ (by rw [hes, sizeLine_eq]; omega))
    have sb : Heap.SameBut a s.heap (s.heap.update a (Obj.putSet es1 t1)) := Heap.SameBut.update ..
    have ho1 := store_at (es' := es1) (t' := t1) ho hd
    generalize s.heap.update a (Obj.putSet es1 t1) = h1 at sb ho1 ⊢
    have each1 : ∀ p ∈ L1, NIs h1 p.2 p.1 := fun p hp => by
      rcases List.mem_cons.mp (pm.mem_iff.mp hp) with rfl | hp
      · exact hx.but ho hd sb
      · exact (R.each p hp).but ho hd sb
    have ld1 : w.params.followText "set-order" = true ∨ t1.led = true := by rw [q5]; exact R.led
    have full : t1.tooFull = decide ((L.length + 1) * 5 ≥ t1.mask * 3) := by
      unfold SetTable.tooFull
      rw [q9, List.length_map]
    by_cases hf : t1.tooFull = true
    · first
        | (refine wpAny_bind ?_; refine wp_if_pos (by simp [hf]) ?_)
        | (refine wp_if_pos (by simp [hf]) ?_; refine wpAny_bind ?_)
      rw [full, decide_eq_true_eq, q4] at hf
      rw [hsl]
      have hsz1 : t1.place.size = es1.size := by
        rw [q3.sz, List.length_map, hlen, hes]
      have go : ∀ M, SetTable.sizeAbove (SetTable.grown (L.length + 1)) - 1 = M → MaskOk M → SetTable.sizeAbove (SetTable.grown (L.length + 1)) ≤ 128 → (L.length + 1) * 5 < M * 3 → L.length + 1 ≤ t1.mask →
          wpAny (model P w) A (setRelay a (SetTable.grown (L.length + 1))) (fun _ s' => wpAny (model P w) A (pure true) Q E s') E { s with heap := h1 } := fun M m1 m2 m3 m4 m5 => by
        refine relay (s := { s with heap := h1 }) ho1 ⟨hex.1, hex.2.1, hex.2.2⟩ rfl hr1 hsz1 q3.dm (by rw [hes]; exact m5) nd1 each1 pl ld1 (by rw [hlen]; exact few) m1 m2 m3 (by rw [hlen]; exact m4) ?_
        intro h2 N2 es2 t2 sb2 R2 pm2
        exact wpAny_pure (q true h2 N2 es2 t2 (sb.trans sb2) R2 (fun z => absurd z hm) fun _ => pm2.trans pm)
      rcases R.tab.mok with e | e | e
      · have e2 : L.length = 4 := by rw [e] at hf hroom; omega
        exact go 31 (by rw [e2, size_20]) (.inr (.inl rfl)) (by rw [e2, size_20]; decide) (by omega) (by rw [q4, e]; omega)
      · have e2 : L.length = 18 := by rw [e] at hf hroom; omega
        exact go 127 (by rw [e2, size_76]) (.inr (.inr rfl)) (by rw [e2, size_76]; decide) (by omega) (by rw [q4, e]; omega)
      · exfalso
        rw [e] at hf
        omega
    · first
        | refine wp_if_neg (by simp [hf]) ?_
        | (refine wpAny_bind ?_; refine wp_if_neg (by simp [hf]) ?_; refine wpAny_pure ?_)
      rw [full, decide_eq_true_eq] at hf
      exact wpAny_pure (q true h1 L1 es1 t1 sb ⟨⟨_, _, ho1, ⟨hex.1, hex.2.1, hex.2.2⟩, rfl⟩, hr1, q3, nd1, each1, pl, ld1, by rw [hlen]; omega, by rw [hlen]; exact few⟩ (fun z => absurd z hm) fun _ => pm)
end
end Pv
namespace Pv
open PySem PySem.Spec PyProof.Rows L2
/-- what stands in the set behind the first i -/
structure Has (ks : List (Addr × NestedKey)) (i : Nat) (L : List (Addr × NestedKey)) : Prop where
  sub : ∀ p ∈ L, p ∈ ks.take i
  all : ∀ p ∈ ks.take i, p.2 ∈ L.map (·.2)
  len : L.length ≤ i
theorem Has.none (ks : List (Addr × NestedKey)) : Has ks 0 [] := ⟨fun _ h => (by cases h), fun _ h => (by simp at h), Nat.le_refl _⟩
theorem Has.next {ks L L' : List (Addr × NestedKey)} {i : Nat} {q : Addr × NestedKey} (g : Has ks i L) (h : ks[i]? = some q) (h1 : q.2 ∈ L.map (·.2) → L' = L) (h2 : q.2 ∉ L.map (·.2) → L'.Perm (q :: L)) : Has ks (i + 1) L' := by
  have e : ks.take (i + 1) = ks.take i ++ [q] := by rw [List.take_succ, h]; rfl
  by_cases c : q.2 ∈ L.map (·.2)
  · rw [h1 c]
    refine ⟨fun p hp => ?_, fun p hp => ?_, Nat.le_succ_of_le g.len⟩
    · rw [e]; exact List.mem_append_left _ (g.sub p hp)
    · rw [e] at hp
      rcases List.mem_append.mp hp with z | z
      · exact g.all p z
      · rw [List.mem_singleton.mp z]; exact c
  · have pm := h2 c
    refine ⟨fun p hp => ?_, fun p hp => ?_, ?_⟩
    · rw [e]
      rcases List.mem_cons.mp (pm.mem_iff.mp hp) with rfl | z
      · exact List.mem_append_right _ (by simp)
      · exact List.mem_append_left _ (g.sub p z)
    · rw [(pm.map (·.2)).mem_iff, List.map_cons]
      rw [e] at hp
      rcases List.mem_append.mp hp with z | z
      · exact List.mem_cons_of_mem _ (g.all p z)
      · rw [List.mem_singleton.mp z]; exact List.mem_cons_self
    · rw [pm.length_eq, List.length_cons]
      exact Nat.succ_le_succ g.len
section
variable {P : Program} {w : World} {A : Around} {E : Value → Shared → Prop} {s : Shared}
theorem NSet.keep {h h' : Heap} {a : Addr} {L : List (Addr × NestedKey)} {es : Array (Int × Value)} {t : SetTable} (R : NSet w h a L es t) (ha : ∀ o, h.get? a = some o → h'.get? a = some o) (he : ∀ q ∈ L, NIs h' q.2 q.1) : NSet w h' a L es t := by
  obtain ⟨o, ep, ho, r⟩ := R.ob
  exact ⟨⟨o, ep, ha o ho, r⟩, R.rows, R.tab, R.nd, he, R.plain, R.led, R.room, R.few⟩
/-- a new set -/
theorem nset_new {h : Heap} {a : Addr} (ho : h.get? a = some { cls := .type "set", dict := none, data := .set #[] 0 (.fresh 0 0 (!w.params.followText "set-order")) }) : NSet w h a [] #[] (.fresh 0 0 (!w.params.followText "set-order")) where
  ob := ⟨_, _, ho, ⟨rfl, rfl, rfl⟩, rfl⟩
  rows := rfl
  tab := ⟨List.Pairwise.nil, rfl, rfl, .inl rfl, fun x hx => (by cases hx), fun i h j hi => (by simp at hi)⟩
  nd := List.nodup_nil
  each := fun q hq => (by cases hq)
  plain := rfl
  led := by
    show _ ∨ (!w.params.followText "set-order") = true
    cases w.params.followText "set-order"
    · exact .inr rfl
    · exact .inl rfl
  room := by show 0 * 5 < 7 * 3; decide
  few := by show 0 < 64; decide
/-- the loop of set.update over a walk -/
theorem set_walk {I : Addr} {fp wr : List Addr} {G : Array GenState → Array GenState → Prop} {n : Nat} {Pv : Nat → Value → Prop} {St : Nat → Shared → Prop} {R : Result → Shared → Prop}
    (W : WalksS P w A.in1 I fp wr G n Pv St) (S : Addr) (hSf : S ∉ fp) (ks : List (Addr × NestedKey)) (hn : n = ks.length) (few : ks.length < 64) (hval : ∀ i v, Pv i v → ∃ q, ks[i]? = some q ∧ v = .ref q.1)
    (h0 : Heap) (hk : ∀ q ∈ ks, NIs h0 q.2 q.1) (hS0 : h0.get? S = none) (hw0 : ∀ b ∈ wr, h0.get? b = none) (hu : A.in1.units + 8 < cLine) :
    ∀ (k i : Nat) (s : Shared), n - i = k → i ≤ n → St i s → (∀ b o, h0.get? b = some o → s.heap.get? b = some o) → (∃ L es t, NSet w s.heap S L es t ∧ Has ks i L) →
      (∀ s' L es t, Moved (S :: wr) G s s' → NSet w s'.heap S L es t → Has ks n L → (∀ b o, h0.get? b = some o → s'.heap.get? b = some o) → R (.ok (.ret .none)) s') →
      codeAny (model P w) A (.builtin "set.update.loop" ⟨[.ref S, .ref I], []⟩) R s := by
  have hSw : S ∉ wr := fun h => hSf (W.sub _ h)
  have wider : ∀ b ∈ wr, b ∈ S :: wr := fun b hb => List.mem_cons_of_mem _ hb
  have old : ∀ {s s' : Shared}, Moved wr G s s' → (∀ b o, h0.get? b = some o → s.heap.get? b = some o) → ∀ b o, h0.get? b = some o → s'.heap.get? b = some o := fun hm kp b o e =>
    hm.heap b o (fun hb => by rw [hw0 b hb] at e; cases e) (kp b o e)
  intro k
  induction k with
  | zero =>
    intro i s hk' hi hst kp ⟨L, es, t, hS, g⟩ hR
    have hin : i = n := by omega
    subst hin
    refine codeAny_builtin F.entry_set_update_loop ?_
    rw [Around.under_plainId F.plain_set_update_loop _]
    show wpAny _ A.in1 (pyNext (.ref I) >>= _) _ _ s
    refine wpAny_bind (W.done s _ _ hst fun s' hm => ?_)
    show wpAny _ A.in1 (ret Value.none) _ _ s'
    have kp' := old hm kp
    exact wpAny_pure (hR s' L es t (hm.mono wider) (hS.keep (fun o e => hm.heap S o hSw e) fun q hq => (hk q (List.mem_of_mem_take (g.sub q hq))).keep kp') g kp')
  | succ k ih =>
    intro i s hk' hi hst kp ⟨L, es, t, hS, g⟩ hR
    have hlt : i < n := by omega
    refine codeAny_builtin F.entry_set_update_loop ?_
    rw [Around.under_plainId F.plain_set_update_loop _]
    show wpAny _ A.in1 (pyNext (.ref I) >>= _) _ _ s
    refine wpAny_bind (W.item i s _ _ hlt hst fun v s' hP hst' hm => ?_)
    obtain ⟨q, hq, rfl⟩ := hval i v hP
    have kp' := old hm kp
    have hS' : NSet w s'.heap S L es t := hS.keep (fun o e => hm.heap S o hSw e) fun q hq => (hk q (List.mem_of_mem_take (g.sub q hq))).keep kp'
    have hx : NIs s'.heap q.2 q.1 := (hk q (List.mem_of_getElem? hq)).keep kp'
    show wpAny _ A.in1 (holding [Value.ref q.1] (setAdd S (.ref q.1)) >>= _) _ _ s'
    refine wpAny_bind (wpAny_holding ?_)
    unfold setAdd
    refine wpAny_holding (wpAny_bind ((nestedKind P w).pyHash (k := q.2) hu ⟨hx.is, hx.dp⟩ ?_))
    refine addN (s := { s' with toks := s'.toks + q.2.draws }) hS' hx hu (by have := g.len; omega) fun b h' L' es' t' hsb hS2 c1 c2 => ?_
    have kp2 : ∀ b o, h0.get? b = some o → h'.get? b = some o := fun b o e => (hsb.2 b (fun z => by rw [z, hS0] at e; cases e)).trans (kp' b o e)
    refine wpAny_pure ⟨plainId_quiet F.plain_set_update_loop _, ih (i + 1) _ (by omega) hlt (W.frame _ s' _ _ hst' (Nat.le_add_right _ _) fun b hb o e => ?_) kp2 ⟨L', es', t', hS2, g.next hq c1 c2⟩ fun s'' N2 es2 t2 hm2 hS3 g2 kp3 => ?_⟩
    · rw [hsb.2 b (fun h : b = S => hSf (by rw [← h]; exact hb))]; exact e
    · refine hR s'' N2 es2 t2 (Moved.trans W.gtrans ((hm.mono wider).then_heap (Nat.le_add_right _ _) fun b o hb e => ?_) hm2) hS3 g2 kp3
      rw [hsb.2 b (fun h : b = S => hb (by rw [h]; exact List.mem_cons_self))]; exact e
abbrev set0 (w : World) : Obj := { cls := .type "set", dict := none, data := .set #[] 0 (.fresh 0 0 (!w.params.followText "set-order")) }
set_option maxHeartbeats 3200000 in
theorem call_setN_list {l : Addr} {items : Array Value} (ks : List (Addr × NestedKey)) {Q : Value → Shared → Prop} (hh : A.handled = none) (hl : s.heap.IsList l items) (hit : items.toList = ks.map fun p => Value.ref p.1)
    (hk : ∀ p ∈ ks, NIs s.heap p.2 p.1) (few : ks.length < 64) (hu : A.units + 16 < cLine)
    (h : ∀ (h' : Heap) (tk : Nat) L es t, NSet w h' s.heap.objs.size L es t → Has ks ks.length L → (∀ b o, s.heap.get? b = some o → h'.get? b = some o) → Q (.ref s.heap.objs.size) { s with heap := h', toks := tk }) :
    wpAny (model P w) A (call (.type "set") [.ref l]) Q E s := by
  have hsz : items.size = ks.length := by rw [← Array.length_toList, hit, List.length_map]
  obtain ⟨c, tl, hmro⟩ := F.called_set.mro
  have hmade := F.called_set.made
  have hsub := F.called_set.sub
  refine wpAny_call (codeAny_of_tree ?_)
  show wpAny _ _ (callAny (.type "set") _) _ _ _
  refine wpAny_pure ⟨Code.quiet_builtin _ (by decide +kernel), codeAny_builtin F.entry_type_call ?_⟩
  rw [Around.under_plain (weight_type_call_type "set" [.ref l] []) rfl]
  have h1 := F.called_set.notType
  have h2 := F.called_set.canCreate
  have hct := F.typeCall_set_1 (.ref l)
  repeat (any_goals (first | assumption | wp_step))
  refine codeAny_mono (code_set_led1 (.ref l) (E := E) (Q₁ := fun obj s₁ => obj = .ref s.heap.objs.size ∧ s₁ = { s with heap := s.heap.push (set0 w) }) ⟨rfl, rfl⟩) fun r s₁ hr => ?_
  cases r with
  | error e => exact hr
  | ok fl =>
    cases fl with
    | ret obj =>
      obtain ⟨rfl, rfl⟩ := hr
      have hS : (s.heap.push (set0 w)).get? s.heap.objs.size = some (set0 w) := Heap.get?_push_size _ rfl
      have hT : Shared.TypeIs { s with heap := s.heap.push (set0 w) } (.ref s.heap.objs.size) "set" := ⟨_, hS, rfl⟩
      have hli := F.called_set.init.lookup
      have hbi := F.called_set.init.bind (.ref s.heap.objs.size)
      repeat (any_goals (first | assumption | wp_step))
      refine codeAny_mono (codeAny_call_builtin (R := wants (fun r s₂ => r = .none ∧ ∃ h' tk L es t, s₂ = { s with heap := h', toks := tk } ∧ NSet w h' s.heap.objs.size L es t ∧ Has ks ks.length L ∧
          (∀ b o, s.heap.get? b = some o → h'.get? b = some o)) E) F.called_set.init.plain F.entry_set_init (check_set_init_1 hT ?_)) fun r₂ s₂ hr₂ => ?_
      · obtain ⟨ol, hol, hcl, nl, hdl⟩ := hl
        obtain ⟨ocls, odict, odata, oslots⟩ := ol
        simp only at hcl hdl
        subst hcl; subst hdl
        have hol' : (s.heap.push (set0 w)).get? l = some { cls := .type "list", dict := odict, data := .seq items nl, slots := oslots } := Heap.get?_push_of_some _ hol
        have hsls := F.sub_list_set
        have hslf := F.sub_list_frozenset
        have hne : (Value.type "list" == Value.type "dict") = false := by decide
        have hl1 : (s.heap.push (set0 w)).IsList l items := ⟨_, hol', rfl, nl, rfl⟩
        unfold Builtin.«set.__init__» noKeywords Builtin.Frozenset.updateFrom
        generalize hPI : pyIter = PI
        wp_walk
        subst hPI
        refine wpAny_pyIter_list hl1 (wpAny_bind (wpAny_runValue ?_))
        have hlS : l < s.heap.objs.size := Heap.lt_size hol
        have hh3 : A.in1.in1.in1.handled = none := by simp [hh]
        have hsz1 : (s.heap.push (set0 w)).objs.size = s.heap.objs.size + 1 := Heap.size_push ..
        have hneI : l ≠ (s.heap.push (set0 w)).objs.size := by rw [hsz1]; exact Nat.ne_of_lt (Nat.lt_succ_of_lt hlS)
        have hSf : s.heap.objs.size ∉ [(s.heap.push (set0 w)).objs.size, l] := by
          rw [hsz1]; simp only [List.mem_cons, List.not_mem_nil, or_false, not_or]
          exact ⟨Nat.ne_of_lt (Nat.lt_succ_self _), Nat.ne_of_gt hlS⟩
        have hval : ∀ (i : Nat) (v : Value), items[i]? = some v → ∃ p, ks[i]? = some p ∧ v = .ref p.1 := fun i v hv => by
          rw [← Array.getElem?_toList, hit, List.getElem?_map] at hv
          obtain ⟨p, e, rfl⟩ := Option.map_eq_some_iff.mp hv
          exact ⟨p, e, rfl⟩
        have free : ∀ b, s.heap.objs.size ≤ b → s.heap.get? b = none := fun b hb => by
          cases e : s.heap.get? b with
          | none => rfl
          | some o => exact absurd (Nat.lt_of_lt_of_le (Heap.lt_size e) hb) (Nat.lt_irrefl _)
        refine set_walk ((Walks.list hh3 _ l hneI items).toS) s.heap.objs.size hSf ks hsz few hval s.heap hk (free _ (Nat.le_refl _)) (fun b hb => free b (by rw [List.mem_singleton.mp hb, hsz1]; exact Nat.le_succ _)) (by simp; omega) (items.size - 0) 0 _ (by omega) (Nat.zero_le _)
          ⟨⟨_, Heap.get?_push_size _ rfl, rfl, rfl⟩, (hl1.push _)⟩ (fun b o e => Heap.get?_push_of_some _ (Heap.get?_push_of_some _ e)) ?hS0 ?hR
        case hS0 => exact ⟨[], #[], _, nset_new (Heap.get?_push_of_some _ hS), Has.none ks⟩
        case hR =>
          intro s' L es t hm hS' g' kp
          obtain ⟨h', g2, d', tk', os'⟩ := s'
          have eg : g2 = s.gens := hm.gens
          have ed : d' = s.drawn := hm.drawn
          have eo : os' = s.os := hm.os
          subst eg; subst ed; subst eo
          show wpAny _ _ _ _ _ _
          refine wpAny_pure ?_
          show wpAny _ _ (ret Value.none) _ _ _
          rw [hsz] at g'
          exact wpAny_pure ⟨rfl, h', tk', L, es, t, rfl, hS', g', kp⟩
      · cases r₂ with
        | error e => exact hr₂
        | ok fl₂ =>
          cases fl₂ with
          | ret r =>
            obtain ⟨rfl, h', tk, L, es, t, rfl, hS', g', hk'⟩ := hr₂
            repeat (any_goals (first | assumption | wp_step))
            exact h _ _ _ _ _ hS' g' hk'
          | _ => exact hr₂.elim
    | _ => exact hr.elim
set_option maxHeartbeats 3200000 in
theorem call_setN_tuple {l : Addr} {items : Array Value} (ks : List (Addr × NestedKey)) {Q : Value → Shared → Prop} (hh : A.handled = none) (hl : s.heap.IsTuple l items) (hit : items.toList = ks.map fun p => Value.ref p.1)
    (hk : ∀ p ∈ ks, NIs s.heap p.2 p.1) (few : ks.length < 64) (hu : A.units + 16 < cLine)
    (h : ∀ (h' : Heap) (tk : Nat) L es t, NSet w h' s.heap.objs.size L es t → Has ks ks.length L → (∀ b o, s.heap.get? b = some o → h'.get? b = some o) → Q (.ref s.heap.objs.size) { s with heap := h', toks := tk }) :
    wpAny (model P w) A (call (.type "set") [.ref l]) Q E s := by
  have hsz : items.size = ks.length := by rw [← Array.length_toList, hit, List.length_map]
  obtain ⟨c, tl, hmro⟩ := F.called_set.mro
  have hmade := F.called_set.made
  have hsub := F.called_set.sub
  refine wpAny_call (codeAny_of_tree ?_)
  show wpAny _ _ (callAny (.type "set") _) _ _ _
  refine wpAny_pure ⟨Code.quiet_builtin _ (by decide +kernel), codeAny_builtin F.entry_type_call ?_⟩
  rw [Around.under_plain (weight_type_call_type "set" [.ref l] []) rfl]
  have h1 := F.called_set.notType
  have h2 := F.called_set.canCreate
  have hct := F.typeCall_set_1 (.ref l)
  repeat (any_goals (first | assumption | wp_step))
  refine codeAny_mono (code_set_led1 (.ref l) (E := E) (Q₁ := fun obj s₁ => obj = .ref s.heap.objs.size ∧ s₁ = { s with heap := s.heap.push (set0 w) }) ⟨rfl, rfl⟩) fun r s₁ hr => ?_
  cases r with
  | error e => exact hr
  | ok fl =>
    cases fl with
    | ret obj =>
      obtain ⟨rfl, rfl⟩ := hr
      have hS : (s.heap.push (set0 w)).get? s.heap.objs.size = some (set0 w) := Heap.get?_push_size _ rfl
      have hT : Shared.TypeIs { s with heap := s.heap.push (set0 w) } (.ref s.heap.objs.size) "set" := ⟨_, hS, rfl⟩
      have hli := F.called_set.init.lookup
      have hbi := F.called_set.init.bind (.ref s.heap.objs.size)
      repeat (any_goals (first | assumption | wp_step))
      refine codeAny_mono (codeAny_call_builtin (R := wants (fun r s₂ => r = .none ∧ ∃ h' tk L es t, s₂ = { s with heap := h', toks := tk } ∧ NSet w h' s.heap.objs.size L es t ∧ Has ks ks.length L ∧
          (∀ b o, s.heap.get? b = some o → h'.get? b = some o)) E) F.called_set.init.plain F.entry_set_init (check_set_init_1 hT ?_)) fun r₂ s₂ hr₂ => ?_
      · obtain ⟨ol, hol, hcl, nl, hdl⟩ := hl
        obtain ⟨ocls, odict, odata, oslots⟩ := ol
        simp only at hcl hdl
        subst hcl; subst hdl
        have hol' : (s.heap.push (set0 w)).get? l = some { cls := .type "tuple", dict := odict, data := .seq items nl, slots := oslots } := Heap.get?_push_of_some _ hol
        have hsls := F.sub_tuple_set
        have hslf := F.sub_tuple_frozenset
        have hne : (Value.type "tuple" == Value.type "dict") = false := by decide
        have hl1 : (s.heap.push (set0 w)).IsTuple l items := ⟨_, hol', rfl, nl, rfl⟩
        unfold Builtin.«set.__init__» noKeywords Builtin.Frozenset.updateFrom
        generalize hPI : pyIter = PI
        wp_walk
        subst hPI
        refine wpAny_pyIter_tuple hl1 (wpAny_bind (wpAny_runValue ?_))
        have hlS : l < s.heap.objs.size := Heap.lt_size hol
        have hh3 : A.in1.in1.in1.handled = none := by simp [hh]
        have hsz1 : (s.heap.push (set0 w)).objs.size = s.heap.objs.size + 1 := Heap.size_push ..
        have hneI : l ≠ (s.heap.push (set0 w)).objs.size := by rw [hsz1]; exact Nat.ne_of_lt (Nat.lt_succ_of_lt hlS)
        have hSf : s.heap.objs.size ∉ [(s.heap.push (set0 w)).objs.size, l] := by
          rw [hsz1]; simp only [List.mem_cons, List.not_mem_nil, or_false, not_or]
          exact ⟨Nat.ne_of_lt (Nat.lt_succ_self _), Nat.ne_of_gt hlS⟩
        have hval : ∀ (i : Nat) (v : Value), items[i]? = some v → ∃ p, ks[i]? = some p ∧ v = .ref p.1 := fun i v hv => by
          rw [← Array.getElem?_toList, hit, List.getElem?_map] at hv
          obtain ⟨p, e, rfl⟩ := Option.map_eq_some_iff.mp hv
          exact ⟨p, e, rfl⟩
        have free : ∀ b, s.heap.objs.size ≤ b → s.heap.get? b = none := fun b hb => by
          cases e : s.heap.get? b with
          | none => rfl
          | some o => exact absurd (Nat.lt_of_lt_of_le (Heap.lt_size e) hb) (Nat.lt_irrefl _)
        refine set_walk ((Walks.tuple hh3 _ l hneI items).toS) s.heap.objs.size hSf ks hsz few hval s.heap hk (free _ (Nat.le_refl _)) (fun b hb => free b (by rw [List.mem_singleton.mp hb, hsz1]; exact Nat.le_succ _)) (by simp; omega) (items.size - 0) 0 _ (by omega) (Nat.zero_le _)
          ⟨⟨_, Heap.get?_push_size _ rfl, rfl, rfl⟩, (hl1.push _)⟩ (fun b o e => Heap.get?_push_of_some _ (Heap.get?_push_of_some _ e)) ?hS0 ?hR
        case hS0 => exact ⟨[], #[], _, nset_new (Heap.get?_push_of_some _ hS), Has.none ks⟩
        case hR =>
          intro s' L es t hm hS' g' kp
          obtain ⟨h', g2, d', tk', os'⟩ := s'
          have eg : g2 = s.gens := hm.gens
          have ed : d' = s.drawn := hm.drawn
          have eo : os' = s.os := hm.os
          subst eg; subst ed; subst eo
          show wpAny _ _ _ _ _ _
          refine wpAny_pure ?_
          show wpAny _ _ (ret Value.none) _ _ _
          rw [hsz] at g'
          exact wpAny_pure ⟨rfl, h', tk', L, es, t, rfl, hS', g', kp⟩
      · cases r₂ with
        | error e => exact hr₂
        | ok fl₂ =>
          cases fl₂ with
          | ret r =>
            obtain ⟨rfl, h', tk, L, es, t, rfl, hS', g', hk'⟩ := hr₂
            repeat (any_goals (first | assumption | wp_step))
            exact h _ _ _ _ _ hS' g' hk'
          | _ => exact hr₂.elim
    | _ => exact hr.elim
end
end Pv
namespace Pv
open PySem PySem.Spec PyProof.Rows L2
/-! ## The order of data -/
theorem small_size {k : Nat} (h : k ≤ 1000) : k ≤ sizeLine := by rw [sizeLine_eq]; omega
mutual
theorem eqvS : ∀ {x y : PV}, x.keyS = true → y.keyS = true → (x.eqv y = true ↔ x = y)
  | .int i, y, _, hy => by cases y <;> simp [PV.keyS] at hy <;> simp [PV.eqv]
  | .str i, y, _, hy => by cases y <;> simp [PV.keyS] at hy <;> simp [PV.eqv]
  | .tup a, y, hx, hy => by
    cases y <;> simp [PV.keyS] at hy <;> simp [PV.eqv]
    exact eqvSAll (by simpa [PV.keyS] using hx) hy
  | .non, _, hx, _ => by simp [PV.keyS] at hx
  | .bl _, _, hx, _ => by simp [PV.keyS] at hx
  | .lst _, _, hx, _ => by simp [PV.keyS] at hx
  | .cell _, _, hx, _ => by simp [PV.keyS] at hx
  | .fn _, _, hx, _ => by simp [PV.keyS] at hx
theorem eqvSAll : ∀ {a b : List PV}, keySAll a = true → keySAll b = true → (eqvAll a b = true ↔ a = b)
  | [], b, _, hb => by cases b <;> simp [eqvAll]
  | x :: a, b, ha, hb => by
    cases b with
    | nil => simp [eqvAll]
    | cons y b =>
      simp only [keySAll, Bool.and_eq_true] at ha hb
      simp only [eqvAll, Bool.and_eq_true, eqvS ha.1 hb.1, eqvSAll ha.2 hb.2, List.cons.injEq]
end
theorem eqv_ne {x y : PV} (hx : x.keyS = true) (hy : y.keyS = true) (h : x ≠ y) : x.eqv y = false := by
  cases e : x.eqv y with
  | false => rfl
  | true => exact absurd ((eqvS hx hy).mp e) h
theorem eqv_self {x : PV} (hx : x.keyS = true) : x.eqv x = true := (eqvS hx hx).mpr rfl
mutual
theorem eqvD : ∀ {x y : PV}, x.keyS = true → y.keyS = true → PyData.eqv x.dat y.dat = x.eqv y
  | .int i, y, _, hy => by cases y <;> simp [PV.keyS] at hy <;> simp [PV.dat, PyData.eqv, PV.eqv]
  | .str i, y, _, hy => by cases y <;> simp [PV.keyS] at hy <;> simp only [PV.dat, PyData.eqv, PV.eqv, str_beq']
  | .tup a, y, hx, hy => by
    cases y <;> simp [PV.keyS] at hy <;> simp only [PV.dat, PyData.eqv, PV.eqv]
    exact eqvDAll (by simpa [PV.keyS] using hx) hy
  | .non, _, hx, _ => by simp [PV.keyS] at hx
  | .bl _, _, hx, _ => by simp [PV.keyS] at hx
  | .lst _, _, hx, _ => by simp [PV.keyS] at hx
  | .cell _, _, hx, _ => by simp [PV.keyS] at hx
  | .fn _, _, hx, _ => by simp [PV.keyS] at hx
theorem eqvDAll : ∀ {a b : List PV}, keySAll a = true → keySAll b = true → PyData.eqvAll (datAll a) (datAll b) = eqvAll a b
  | [], b, _, hb => by cases b <;> simp [datAll, PyData.eqvAll, eqvAll]
  | x :: a, b, ha, hb => by
    cases b with
    | nil => simp [datAll, PyData.eqvAll, eqvAll]
    | cons y b =>
      simp only [keySAll, Bool.and_eq_true] at ha hb
      simp only [datAll, PyData.eqvAll, eqvAll, eqvD ha.1 hb.1, eqvDAll ha.2 hb.2]
end
mutual
theorem likeD : ∀ {x y : PV}, x.keyS = true → y.keyS = true → PySem.W.alike x.dat y.dat = x.like y
  | .int i, y, _, hy => by cases y <;> simp [PV.keyS] at hy <;> simp [PV.dat, PySem.W.alike, PV.like]
  | .str i, y, _, hy => by cases y <;> simp [PV.keyS] at hy <;> simp [PV.dat, PySem.W.alike, PV.like]
  | .tup a, y, hx, hy => by
    cases y <;> simp [PV.keyS] at hy <;> simp only [PV.dat, PySem.W.alike, PV.like]
    exact likeDAll (by simpa [PV.keyS] using hx) hy
  | .non, _, hx, _ => by simp [PV.keyS] at hx
  | .bl _, _, hx, _ => by simp [PV.keyS] at hx
  | .lst _, _, hx, _ => by simp [PV.keyS] at hx
  | .cell _, _, hx, _ => by simp [PV.keyS] at hx
  | .fn _, _, hx, _ => by simp [PV.keyS] at hx
theorem likeDAll : ∀ {a b : List PV}, keySAll a = true → keySAll b = true → PySem.W.alikeAll (datAll a) (datAll b) = likeAll a b
  | [], b, _, hb => by cases b <;> simp [datAll, PySem.W.alikeAll, likeAll]
  | x :: a, b, ha, hb => by
    cases b with
    | nil => simp [datAll, PySem.W.alikeAll, likeAll]
    | cons y b =>
      simp only [keySAll, Bool.and_eq_true] at ha hb
      simp only [datAll, PySem.W.alikeAll, likeAll, likeD ha.1 hb.1, likeDAll ha.2 hb.2]
end
theorem rows_nil : PyProof.Rows.lexLt itemOrd (PySem.W.keyToksAll []) (PySem.W.keyToksAll []) = false := PyProof.Rows.lex_irrefl _
theorem rows_lt (y : PyData) (ys : List PyData) : PyProof.Rows.lexLt itemOrd (PySem.W.keyToksAll []) (PySem.W.keyToksAll (y :: ys)) = true := by
  rw [PySem.W.toks_all_cons]
  simp only [PySem.W.keyToksAll]
  rw [PyProof.Rows.lex_diff (O := itemOrd) (by simp)]
  rfl
theorem rows_gt (y : PyData) (ys : List PyData) : PyProof.Rows.lexLt itemOrd (PySem.W.keyToksAll (y :: ys)) (PySem.W.keyToksAll []) = false := by
  rw [PySem.W.toks_all_cons]
  simp only [PySem.W.keyToksAll]
  rw [PyProof.Rows.lex_diff (O := itemOrd) (by simp)]
  rfl
mutual
theorem ltD : ∀ {x y : PV}, x.keyS = true → y.keyS = true → x.like y = true → PySem.W.dataLt x.dat y.dat = x.ltk y
  | .int i, y, _, _, hl => by
    cases y <;> simp [PV.like] at hl
    simp only [PV.dat, PySem.W.dataLt_int, PV.ltk]
  | .str i, y, _, _, hl => by
    cases y <;> simp [PV.like] at hl
    simp only [PV.dat, PySem.W.dataLt_str, PV.ltk]
  | .tup a, y, hx, hy, hl => by
    cases y <;> simp only [PV.like, Bool.false_eq_true] at hl
    simp only [PV.dat, PySem.W.dataLt_tuple, PV.ltk]
    exact ltDAll (by simpa [PV.keyS] using hx) (by simpa [PV.keyS] using hy) hl
  | .non, _, hx, _, _ => by simp [PV.keyS] at hx
  | .bl _, _, hx, _, _ => by simp [PV.keyS] at hx
  | .lst _, _, hx, _, _ => by simp [PV.keyS] at hx
  | .cell _, _, hx, _, _ => by simp [PV.keyS] at hx
  | .fn _, _, hx, _, _ => by simp [PV.keyS] at hx
theorem ltDAll : ∀ {a b : List PV}, keySAll a = true → keySAll b = true → likeAll a b = true → PyProof.Rows.lexLt itemOrd (PySem.W.keyToksAll (datAll a)) (PySem.W.keyToksAll (datAll b)) = ltkAll a b
  | [], b, _, _, _ => by
    cases b with
    | nil => simp only [datAll, ltkAll]; exact rows_nil
    | cons y b => simp only [datAll, ltkAll]; exact rows_lt _ _
  | x :: a, b, ha, hb, hl => by
    cases b with
    | nil => simp only [datAll, ltkAll]; exact rows_gt _ _
    | cons y b =>
      simp only [keySAll, Bool.and_eq_true] at ha hb
      simp only [likeAll, Bool.and_eq_true] at hl
      simp only [datAll, ltkAll]
      rw [PySem.W.dataLt_cons (by rw [likeD ha.1 hb.1]; exact hl.1), eqvD ha.1 hb.1, ltDAll ha.2 hb.2 hl.2, ltD ha.1 hb.1 hl.1]
end
mutual
theorem ltk_anti : ∀ {x y : PV}, x.keyS = true → y.keyS = true → x.like y = true → x.ltk y = false → y.ltk x = false → x = y
  | .int i, y, _, _, hl, h1, h2 => by
    cases y <;> simp [PV.like] at hl
    simp [PV.ltk] at h1 h2
    exact congrArg PV.int (Int.le_antisymm h2 h1)
  | .str i, y, _, _, hl, h1, h2 => by
    cases y <;> simp [PV.like] at hl
    simp only [PV.ltk, decide_eq_false_iff_not] at h1 h2
    rw [List.le_antisymm (List.not_lt.mp h2) (List.not_lt.mp h1)]
  | .tup a, y, hx, hy, hl, h1, h2 => by
    cases y <;> simp only [PV.like, Bool.false_eq_true] at hl
    simp only [PV.ltk] at h1 h2
    rw [ltk_antiAll (by simpa [PV.keyS] using hx) (by simpa [PV.keyS] using hy) hl h1 h2]
  | .non, _, hx, _, _, _, _ => by simp [PV.keyS] at hx
  | .bl _, _, hx, _, _, _, _ => by simp [PV.keyS] at hx
  | .lst _, _, hx, _, _, _, _ => by simp [PV.keyS] at hx
  | .cell _, _, hx, _, _, _, _ => by simp [PV.keyS] at hx
  | .fn _, _, hx, _, _, _, _ => by simp [PV.keyS] at hx
theorem ltk_antiAll : ∀ {a b : List PV}, keySAll a = true → keySAll b = true → likeAll a b = true → ltkAll a b = false → ltkAll b a = false → a = b
  | [], b, _, _, _, h1, h2 => by
    cases b with
    | nil => rfl
    | cons y b => simp [ltkAll] at h1
  | x :: a, b, ha, hb, hl, h1, h2 => by
    cases b with
    | nil => simp [ltkAll] at h2
    | cons y b =>
      simp only [keySAll, Bool.and_eq_true] at ha hb
      simp only [likeAll, Bool.and_eq_true] at hl
      by_cases e : x = y
      · subst e
        simp only [ltkAll, eqv_self ha.1, if_true] at h1 h2
        rw [ltk_antiAll ha.2 hb.2 hl.2 h1 h2]
      · simp only [ltkAll, eqv_ne ha.1 hb.1 e, eqv_ne hb.1 ha.1 (Ne.symm e), Bool.false_eq_true, if_false] at h1 h2
        exact absurd (ltk_anti ha.1 hb.1 hl.1 h1 h2) e
end
theorem keySAll_mem {l : List PV} (h : keySAll l = true) : ∀ x ∈ l, x.keyS = true := by
  induction l with
  | nil => exact fun _ hx => by cases hx
  | cons a l ih =>
    simp only [keySAll, Bool.and_eq_true] at h
    intro x hx
    rcases List.mem_cons.mp hx with rfl | hx
    · exact h.1
    · exact ih h.2 x hx
/-- Python's order of data, as a relation -/
abbrev leD (a b : PV) : Bool := PySem.W.dataLe false PV.dat a b
theorem leD_eq (a b : PV) : leD a b = !PySem.W.dataLt b.dat a.dat := rfl
theorem leD_total : PySem.W.TotalLe leD := PySem.W.sortLe_total (PyProof.Rows.listOrd itemOrd) false fun b : PV => PySem.W.keyToks b.dat
/-- a list whose items are alike -/
structure Alk (l : List PV) : Prop where
  key : ∀ x ∈ l, x.keyS = true
  like : ∀ x ∈ l, ∀ y ∈ l, x.like y = true
theorem Alk.lt {l : List PV} (A : Alk l) {x y : PV} (hx : x ∈ l) (hy : y ∈ l) : PySem.W.dataLt x.dat y.dat = x.ltk y := ltD (A.key x hx) (A.key y hy) (A.like x hx y hy)
theorem Alk.sub {l m : List PV} (A : Alk l) (h : ∀ x ∈ m, x ∈ l) : Alk m := ⟨fun x hx => A.key x (h x hx), fun x hx y hy => A.like x (h x hx) y (h y hy)⟩
theorem insK_perm (x : PV) : ∀ l : List PV, (insK x l).Perm (x :: l)
  | [] => List.Perm.refl _
  | y :: l => by
    unfold insK
    split
    · exact ((insK_perm x l).cons y).trans (List.Perm.swap x y l)
    · exact List.Perm.refl _
theorem isort_perm : ∀ l : List PV, (isort l).Perm l
  | [] => List.Perm.refl _
  | x :: l => (insK_perm x _).trans ((isort_perm l).cons x)
theorem insK_sorted {x : PV} : ∀ {l : List PV}, Alk (x :: l) → l.Pairwise (fun a b => leD a b = true) → (insK x l).Pairwise (fun a b => leD a b = true)
  | [], _, _ => by simp [insK]
  | y :: l, A, h => by
    obtain ⟨h1, h2⟩ := List.pairwise_cons.mp h
    unfold insK
    split
    · rename_i e
      refine List.pairwise_cons.mpr ⟨fun z hz => ?_, insK_sorted (A.sub fun z hz => by rcases List.mem_cons.mp hz with rfl | hz; simp; simp [hz]) h2⟩
      rcases List.mem_cons.mp ((insK_perm x l).mem_iff.mp hz) with rfl | hz
      · rcases leD_total.total y z with t | t
        · exact t
        · rw [leD_eq, A.lt (by simp) (by simp), e] at t
          cases t
      · exact h1 z hz
    · rename_i e
      have e' : leD x y = true := by
        rw [leD_eq, A.lt (by simp) (by simp)]
        simpa using e
      refine List.pairwise_cons.mpr ⟨fun z hz => ?_, h⟩
      rcases List.mem_cons.mp hz with rfl | hz
      · exact e'
      · exact leD_total.trans _ _ _ e' (h1 z hz)
theorem isort_sorted : ∀ {l : List PV}, Alk l → (isort l).Pairwise (fun a b => leD a b = true)
  | [], _ => by simp [isort]
  | x :: l, A => insK_sorted (A.sub fun z hz => by
      rcases List.mem_cons.mp hz with rfl | hz
      · simp
      · exact List.mem_cons_of_mem _ ((isort_perm l).mem_iff.mp hz)) (isort_sorted (A.sub fun z hz => List.mem_cons_of_mem _ hz))
theorem leD_anti {l : List PV} (A : Alk l) {a b : PV} (ha : a ∈ l) (hb : b ∈ l) (h1 : leD a b = true) (h2 : leD b a = true) : a = b := by
  rw [leD_eq, A.lt hb ha] at h1
  rw [leD_eq, A.lt ha hb] at h2
  exact ltk_anti (A.key a ha) (A.key b hb) (A.like a ha b hb) (by simpa using h2) (by simpa using h1)
/-- there is just one sorted list -/
theorem sorted_one {l m n : List PV} (A : Alk l) (hm : m.Perm l) (hn : n.Perm l) (sm : m.Pairwise (fun a b => leD a b = true)) (sn : n.Pairwise (fun a b => leD a b = true)) : m = n :=
  List.Perm.eq_of_pairwise (le := fun a b => leD a b = true) (fun a b ha hb h1 h2 => leD_anti A (hm.mem_iff.mp ha) (hn.mem_iff.mp hb) h1 h2) sm sn (hm.trans hn.symm)
theorem merge_isort {l : List PV} (A : Alk l) : l.mergeSort leD = isort l :=
  sorted_one A (List.mergeSort_perm _ _) (isort_perm l) (PySem.W.sort_pairwise leD_total l) (isort_sorted A)
/-! ### the unlike ones -/
theorem insN_mem {x z : PV} : ∀ {l : List PV}, x.keyS = true → (∀ y ∈ l, y.keyS = true) → (z ∈ insN x l ↔ z = x ∨ z ∈ l)
  | [], _, _ => by simp [insN]
  | y :: l, hx, hl => by
    have hy := hl y (by simp)
    unfold insN
    split
    · rename_i e
      have e := (eqvS hx hy).mp e
      subst e
      simp
    · split
      · simp
      · rw [List.mem_cons, insN_mem hx fun y hy => hl y (by simp [hy]), List.mem_cons]
        constructor
        · rintro (h | h | h) <;> simp [h]
        · rintro (h | h | h) <;> simp [h]
theorem sortN_mem {z : PV} : ∀ {l : List PV}, (∀ y ∈ l, y.keyS = true) → (z ∈ sortN l ↔ z ∈ l)
  | [], _ => by simp [sortN]
  | x :: l, hl => by
    have ih := fun z => sortN_mem (z := z) (l := l) fun y hy => hl y (by simp [hy])
    unfold sortN
    rw [insN_mem (hl x (by simp)) fun y hy => hl y (by simp [(ih y).mp hy]), ih, List.mem_cons]
theorem insN_up {x : PV} : ∀ {l : List PV}, Alk (x :: l) → l.Pairwise (fun a b => a.ltk b = true) → (insN x l).Pairwise (fun a b => a.ltk b = true)
  | [], _, _ => by simp [insN]
  | y :: l, A, h => by
    obtain ⟨h1, h2⟩ := List.pairwise_cons.mp h
    have hx := A.key x (by simp)
    have hy := A.key y (by simp)
    unfold insN
    split
    · exact h
    · rename_i e1
      split
      · rename_i e
        refine List.pairwise_cons.mpr ⟨fun z hz => ?_, h⟩
        rcases List.mem_cons.mp hz with rfl | hz
        · exact e
        · -- transitive
          have q := h1 z hz
          rw [← A.lt (by simp) (by simp [hz])] at q
          rw [← A.lt (by simp) (by simp)] at e
          rw [← A.lt (by simp) (by simp [hz])]
          cases t : PySem.W.dataLt x.dat z.dat with
          | true => rfl
          | false =>
            have t1 : leD z x = true := by rw [leD_eq, t]; rfl
            have t2 : leD x y = true := by
              rcases leD_total.total x y with k | k
              · exact k
              · rw [leD_eq, e] at k; cases k
            have t3 := leD_total.trans _ _ _ t1 t2
            rw [leD_eq, q] at t3
            cases t3
      · rename_i e
        refine List.pairwise_cons.mpr ⟨fun z hz => ?_, insN_up (A.sub fun z hz => by rcases List.mem_cons.mp hz with rfl | hz; simp; simp [hz]) h2⟩
        rcases (insN_mem hx fun y hy => A.key y (by simp [hy])).mp hz with rfl | hz
        · cases t : y.ltk z with
          | true => rfl
          | false =>
            have := ltk_anti hx hy (A.like z (by simp) y (by simp)) (by simpa using e) t
            exact absurd ((eqvS hx hy).mpr this) e1
        · exact h1 z hz
theorem sortN_up : ∀ {l : List PV}, Alk l → (sortN l).Pairwise (fun a b => a.ltk b = true)
  | [], _ => by simp [sortN]
  | x :: l, A => insN_up (A.sub fun z hz => by
      rcases List.mem_cons.mp hz with rfl | hz
      · simp
      · exact List.mem_cons_of_mem _ ((sortN_mem fun y hy => A.key y (by simp [hy])).mp hz)) (sortN_up (A.sub fun z hz => List.mem_cons_of_mem _ hz))
theorem ltk_irr {x : PV} (hx : x.keyS = true) (hl : x.like x = true) : x.ltk x = false := by
  rw [← ltD hx hx hl]
  exact PyProof.Rows.lex_irrefl _
/-- a list without doubles that has just l's items, sorted -/
theorem sorted_set {l m : List PV} (A : Alk l) (nd : m.Nodup) (h : ∀ x, x ∈ m ↔ x ∈ l) : m.mergeSort leD = sortN l := by
  have A2 : Alk m := A.sub fun x hx => (h x).mp hx
  have up := sortN_up A
  have mem : ∀ x, x ∈ sortN l ↔ x ∈ l := fun x => sortN_mem A.key
  have nd2 : (sortN l).Nodup := List.Pairwise.imp_of_mem (fun {a b} ha hb q e => by
    subst e
    rw [ltk_irr (A.key a ((mem a).mp ha)) (A.like a ((mem a).mp ha) a ((mem a).mp ha))] at q
    cases q) up
  have pm : (sortN l).Perm m := (List.perm_ext_iff_of_nodup nd2 nd).mpr fun x => (mem x).trans (h x).symm
  refine sorted_one A2 (List.mergeSort_perm _ _) pm (PySem.W.sort_pairwise leD_total m) (List.Pairwise.imp_of_mem (fun {a b} ha hb q => ?_) up)
  rcases leD_total.total a b with k | k
  · exact k
  · rw [leD_eq, A.lt ((mem a).mp ha) ((mem b).mp hb), q] at k
    cases k
theorem dist_mem {z : PV} : ∀ {l : List PV}, (∀ y ∈ l, y.keyS = true) → (z ∈ dist l ↔ z ∈ l)
  | [], _ => by simp [dist]
  | x :: l, hl => by
    have ih := dist_mem (z := z) (l := l) fun y hy => hl y (by simp [hy])
    unfold dist
    split
    · rename_i e
      rw [ih, List.mem_cons]
      constructor
      · exact .inr
      · rintro (rfl | h)
        · obtain ⟨y, hy, e⟩ := List.any_eq_true.mp e
          rw [← (eqvS (hl y (by simp [hy])) (hl z (by simp))).mp e]
          exact hy
        · exact h
    · rw [List.mem_cons, ih, List.mem_cons]
theorem dist_nodup : ∀ {l : List PV}, (∀ y ∈ l, y.keyS = true) → (dist l).Nodup
  | [], _ => by simp [dist]
  | x :: l, hl => by
    have ih := dist_nodup (l := l) fun y hy => hl y (by simp [hy])
    unfold dist
    split
    · exact ih
    · rename_i e
      refine List.nodup_cons.mpr ⟨fun h => e ?_, ih⟩
      have h := (dist_mem fun y hy => hl y (by simp [hy])).mp h
      exact List.any_eq_true.mpr ⟨x, h, eqv_self (hl x (by simp))⟩
theorem insN_le (x : PV) : ∀ l : List PV, (insN x l).length ≤ l.length + 1
  | [] => by simp [insN]
  | y :: l => by
    unfold insN
    split
    · simp
    · split
      · simp
      · have := insN_le x l; simp; omega
theorem sortN_le : ∀ l : List PV, (sortN l).length ≤ l.length
  | [] => by simp [sortN]
  | x :: l => by
    have h1 := insN_le x (sortN l)
    have h2 := sortN_le l
    unfold sortN
    simp
    omega
theorem dist_len {l m : List PV} (hl : ∀ y ∈ l, y.keyS = true) (nd : m.Nodup) (h : ∀ x, x ∈ m ↔ x ∈ l) : m.length = (dist l).length :=
  ((List.perm_ext_iff_of_nodup nd (dist_nodup hl)).mpr fun x => (h x).trans (dist_mem hl).symm).length_eq
end Pv
namespace Pv
open PySem PySem.Spec PyProof.Rows L2
/-! ## sorted, set: the calls -/
mutual
def keyOf : PV → NestedKey
  | .int i => .num i
  | .tup l => .tup (keysOf l)
  | _ => .none
def keysOf : List PV → List NestedKey
  | [] => []
  | x :: l => keyOf x :: keysOf l
end
mutual
theorem keyOf_num : ∀ {v : PV}, v.keyB = true → numB (keyOf v) = true
  | .int i, _ => by simp [keyOf, numB]
  | .tup l, h => by simp only [keyOf, numB]; exact keysOf_num (by simpa [PV.keyB] using h)
  | .non, h => by simp [PV.keyB] at h
  | .bl _, h => by simp [PV.keyB] at h
  | .str _, h => by simp [PV.keyB] at h
  | .lst _, h => by simp [PV.keyB] at h
  | .cell _, h => by simp [PV.keyB] at h
  | .fn _, h => by simp [PV.keyB] at h
theorem keysOf_num : ∀ {l : List PV}, keyBAll l = true → numAll (keysOf l) = true
  | [], _ => by simp [keysOf, numAll]
  | x :: l, h => by
    simp only [keyBAll, Bool.and_eq_true] at h
    simp only [keysOf, numAll, keyOf_num h.1, keysOf_num h.2, Bool.and_self]
end
mutual
theorem keyOf_dep : ∀ {v : PV}, v.keyB = true → (keyOf v).depth = v.dep
  | .int i, _ => by simp [keyOf, NestedKey.depth, PV.dep]
  | .tup l, h => by simp only [keyOf, NestedKey.depth, PV.dep, keysOf_dep (by simpa [PV.keyB] using h)]
  | .non, h => by simp [PV.keyB] at h
  | .bl _, h => by simp [PV.keyB] at h
  | .str _, h => by simp [PV.keyB] at h
  | .lst _, h => by simp [PV.keyB] at h
  | .cell _, h => by simp [PV.keyB] at h
  | .fn _, h => by simp [PV.keyB] at h
theorem keysOf_dep : ∀ {l : List PV}, keyBAll l = true → NestedKey.depthAll (keysOf l) = depAll l
  | [], _ => by simp [keysOf, NestedKey.depthAll, depAll]
  | x :: l, h => by
    simp only [keyBAll, Bool.and_eq_true] at h
    simp only [keysOf, NestedKey.depthAll, depAll, keyOf_dep h.1, keysOf_dep h.2]
end
mutual
theorem keyOf_inj : ∀ {v u : PV}, v.keyB = true → u.keyB = true → keyOf v = keyOf u → v = u
  | .int i, u, _, hu, e => by
    cases u <;> simp [PV.keyB] at hu <;> simp [keyOf] at e
    rw [e]
  | .tup l, u, h, hu, e => by
    cases u <;> simp [PV.keyB] at hu <;> simp [keyOf] at e
    rw [keysOf_inj (by simpa [PV.keyB] using h) hu e]
  | .non, _, h, _, _ => by simp [PV.keyB] at h
  | .bl _, _, h, _, _ => by simp [PV.keyB] at h
  | .str _, _, h, _, _ => by simp [PV.keyB] at h
  | .lst _, _, h, _, _ => by simp [PV.keyB] at h
  | .cell _, _, h, _, _ => by simp [PV.keyB] at h
  | .fn _, _, h, _, _ => by simp [PV.keyB] at h
theorem keysOf_inj : ∀ {l m : List PV}, keyBAll l = true → keyBAll m = true → keysOf l = keysOf m → l = m
  | [], m, _, _, e => by cases m with
    | nil => rfl
    | cons _ _ => simp [keysOf] at e
  | x :: l, m, h, hm, e => by
    cases m with
    | nil => simp [keysOf] at e
    | cons y m =>
      simp only [keyBAll, Bool.and_eq_true] at h hm
      simp only [keysOf, List.cons.injEq] at e
      rw [keyOf_inj h.1 hm.1 e.1, keysOf_inj h.2 hm.2 e.2]
end
mutual
theorem keyB_S : ∀ {v : PV}, v.keyB = true → v.keyS = true
  | .int i, _ => by simp [PV.keyS]
  | .tup l, h => by simp only [PV.keyS]; exact keyBAll_S (by simpa [PV.keyB] using h)
  | .non, h => by simp [PV.keyB] at h
  | .bl _, h => by simp [PV.keyB] at h
  | .str _, h => by simp [PV.keyB] at h
  | .lst _, h => by simp [PV.keyB] at h
  | .cell _, h => by simp [PV.keyB] at h
  | .fn _, h => by simp [PV.keyB] at h
theorem keyBAll_S : ∀ {l : List PV}, keyBAll l = true → keySAll l = true
  | [], _ => by simp [keySAll]
  | x :: l, h => by
    simp only [keyBAll, Bool.and_eq_true] at h
    simp only [keySAll, keyB_S h.1, keyBAll_S h.2, Bool.and_self]
end
theorem keyBAll_mem {l : List PV} (h : keyBAll l = true) : ∀ x ∈ l, x.keyB = true := by
  induction l with
  | nil => exact fun _ hx => by cases hx
  | cons a l ih =>
    simp only [keyBAll, Bool.and_eq_true] at h
    intro x hx
    rcases List.mem_cons.mp hx with rfl | hx
    · exact h.1
    · exact ih h.2 x hx
theorem depAll_mem {l : List PV} : ∀ x ∈ l, x.dep ≤ depAll l := by
  induction l with
  | nil => exact fun _ hx => by cases hx
  | cons a l ih =>
    intro x hx
    simp only [depAll]
    rcases List.mem_cons.mp hx with rfl | hx
    · omega
    · have := ih x hx; omega
section
variable {X : Cx} {pins : List (Addr × Obj)} {σ : L2.St} {H : Hp} {s : Shared}
mutual
theorem fz_key (I : L2.Inv X pins σ H s) : ∀ {v : PV} {x : V} {u : Value}, v.keyB = true → Fz X.K H x v → RelV x u → NestedIs s.heap (keyOf v) u
  | .int i, _, _, _, .int _, ⟨t, e⟩ => by subst e; simp only [keyOf]; exact .int i t
  | .tup l, _, _, h, .tup hq hz hf, r => by
    cases r
    obtain ⟨its, rv, ⟨o, ho, hc, n, hd⟩, _⟩ := I.tuple hq
    simp only [keyOf]
    exact .tup ho hc hd (by simpa using fz_keys I (by simpa [PV.keyB] using h) hf rv)
  | .non, _, _, h, _, _ => by simp [PV.keyB] at h
  | .bl _, _, _, h, _, _ => by simp [PV.keyB] at h
  | .str _, _, _, h, _, _ => by simp [PV.keyB] at h
  | .lst _, _, _, h, _, _ => by simp [PV.keyB] at h
  | .cell _, _, _, h, _, _ => by simp [PV.keyB] at h
  | .fn _, _, _, h, _, _ => by simp [PV.keyB] at h
theorem fz_keys (I : L2.Inv X pins σ H s) : ∀ {l : List PV} {xs : List V} {us : List Value}, keyBAll l = true → FzAll X.K H xs l → Vals xs us → NestedAll s.heap (keysOf l) us
  | [], _, _, _, .nil, .nil => by simp only [keysOf]; exact .nil
  | v :: l, _, _, h, .cons a b, .cons r t => by
    simp only [keyBAll, Bool.and_eq_true] at h
    simp only [keysOf]
    exact .cons (fz_key I h.1 a r) (fz_keys I h.2 b t)
end
mutual
/-- tuples of ints and words are read without a list on the way -/
theorem fz_plain (I : L2.Inv X pins σ H s) : ∀ {v : PV} {x : V} {u : Value}, v.keyS = true → Fz X.K H x v → RelV x u → Reads s.heap u v.dat []
  | .int i, _, _, _, .int _, ⟨t, e⟩ => by subst e; simp only [PV.dat]; exact .int i t
  | .str i, _, _, _, .str _ _ _, ⟨t, e⟩ => by subst e; simp only [PV.dat]; exact .str _ t
  | .tup l, _, _, h, .tup hq hz hf, r => by
    cases r
    obtain ⟨its, rv, ⟨o, ho, hc, n, hd⟩, _⟩ := I.tuple hq
    simp only [PV.dat]
    exact .tuple ho hc hd (by simpa using fz_plains I (by simpa [PV.keyS] using h) hf rv)
  | .non, _, _, h, _, _ => by simp [PV.keyS] at h
  | .bl _, _, _, h, _, _ => by simp [PV.keyS] at h
  | .lst _, _, _, h, _, _ => by simp [PV.keyS] at h
  | .cell _, _, _, h, _, _ => by simp [PV.keyS] at h
  | .fn _, _, _, h, _, _ => by simp [PV.keyS] at h
theorem fz_plains (I : L2.Inv X pins σ H s) : ∀ {l : List PV} {xs : List V} {us : List Value}, keySAll l = true → FzAll X.K H xs l → Vals xs us → ReadsAll s.heap us (datAll l) []
  | [], _, _, _, .nil, .nil => by simp only [datAll]; exact .nil
  | v :: l, _, _, h, .cons a b, .cons r t => by
    simp only [keySAll, Bool.and_eq_true] at h
    simp only [datAll]
    exact ReadsAll.cons (as := []) (bs := []) (fz_plain I h.1 a r) (fz_plains I h.2 b t)
end
end
/-- what an item is: its place, its value -/
abbrev Itm := V × PV
/-- the item stands for the value -/
def ItR (K : PySem.W.Frag) (H : Hp) (u : Value) (b : Itm) : Prop := RelV b.1 u ∧ Fz K H b.1 b.2
theorem each_items {K : PySem.W.Frag} {H : Hp} : ∀ {xs : List V} {l : List PV} {us : List Value}, FzAll K H xs l → Vals xs us → PySem.W.EachIs (ItR K H) us (xs.zip l)
  | _, _, _, .nil, .nil => .nil
  | _, _, _, .cons a b, .cons r t => .cons ⟨r, a⟩ (each_items b t)
theorem each_vals {K : PySem.W.Frag} {H : Hp} : ∀ {us : List Value} {B : List Itm}, PySem.W.EachIs (ItR K H) us B → Vals (B.map (·.1)) us ∧ FzAll K H (B.map (·.1)) (B.map (·.2))
  | _, _, .nil => ⟨.nil, .nil⟩
  | _, _, .cons r t => ⟨.cons r.1 (each_vals t).1, .cons r.2 (each_vals t).2⟩
theorem zip_snd {xs : List V} {l : List PV} (h : xs.length = l.length) : (xs.zip l).map (·.2) = l := by
  rw [List.map_snd_zip]; omega
/-- sortable: as the library asks it -/
theorem sortable_ok {l : List PV} (h : sortable l = true) : Alk l ∧ PySem.W.AllAlike (l.map PV.dat) ∧ PySem.W.Sortable (l.map PV.dat) := by
  unfold sortable at h
  simp only [Bool.and_eq_true, Bool.or_eq_true, List.all_eq_true] at h
  obtain ⟨⟨h1, h2⟩, h3⟩ := h
  have A : Alk l := ⟨keySAll_mem h1, h2⟩
  refine ⟨A, fun d hd d' hd' => ?_, ?_⟩
  · obtain ⟨x, hx, rfl⟩ := List.mem_map.mp hd
    obtain ⟨y, hy, rfl⟩ := List.mem_map.mp hd'
    rw [likeD (A.key x hx) (A.key y hy)]
    exact A.like x hx y hy
  · rcases h3 with h3 | h3
    · refine .inl fun d hd => ?_
      obtain ⟨x, hx, rfl⟩ := List.mem_map.mp hd
      have := h3 x hx
      cases x <;> simp [PV.tup1] at this
      rename_i r
      cases r with
      | nil => simp [PV.tup1] at this
      | cons y r => exact ⟨_, _, by rw [PV.dat, datAll]⟩
    · refine .inr fun d hd => ?_
      obtain ⟨x, hx, rfl⟩ := List.mem_map.mp hd
      have k := h3 x hx
      have k2 := A.key x hx
      cases x <;> simp [PV.noTup, PV.keyS] at k k2 <;> simp [PV.dat]
theorem map_dat_snd (B : List Itm) : B.map (fun b => b.2.dat) = (B.map (·.2)).map PV.dat := by rw [List.map_map]; rfl
/-- sorted(a list) -/
def rSortedD (K : PySem.W.Frag) : List V → Hp → VK → Prop := fun vs H Q => ∃ (a : Addr) (xs : List V) (l : List PV), vs = [V.ref a] ∧ SqL K H a xs ∧ FzAll K H xs l ∧ sortable l = true ∧ depAll l ≤ 62 ∧
  ∀ (p : Addr) (out : List V), H p = none → FzAll K H out (isort l) → Q (.ref p) (L2.upd H p (.lst out))
theorem cr_sortedD {X : Cx} (hu : X.A.units + 70 < cLine) : CallR X (.builtin "sorted") (rSortedD X.K) := by
  intro pins s σ H vs us Q I r h
  obtain ⟨a, xs, l, rfl, hs, hf, hsort, hd, q⟩ := h
  obtain ⟨its, rv, hl, hz⟩ := I.list hs
  rw [Vals.ref1 r]
  obtain ⟨A, al, so⟩ := sortable_ok hsort
  have hlen : xs.length = l.length := FzAll.length hf
  have e2 : (xs.zip l).map (·.2) = l := zip_snd hlen
  have ea : (xs.zip l).map (fun b => b.2.dat) = l.map PV.dat := by rw [map_dat_snd, e2]
  have ei := each_items hf rv
  have mem : ∀ b ∈ xs.zip l, b.2 ∈ l := fun b hb => by rw [← e2]; exact List.mem_map.mpr ⟨b, hb, rfl⟩
  have rd : PySem.W.EachIs (fun v (b : Itm) => ∃ as, Reads s.heap v b.2.dat as) its (xs.zip l) := by
    have key : ∀ {us : List Value} {B : List Itm}, PySem.W.EachIs (ItR X.K H) us B → (∀ b ∈ B, b.2.keyS = true) → PySem.W.EachIs (fun v (b : Itm) => ∃ as, Reads s.heap v b.2.dat as) us B := by
      intro us B e
      induction e with
      | nil => exact fun _ => .nil
      | cons r _ ih => exact fun k => .cons ⟨[], fz_plain I (k _ (by simp)) r.2 r.1⟩ (ih fun b hb => k b (by simp [hb]))
    exact key ei fun b hb => A.key _ (mem b hb)
  refine PySem.W.sorted_data (enc := fun b : Itm => b.2.dat) hl.isList ei rd (by rw [ea]; exact al) (by rw [ea]; exact so) (by rw [← ei.length, ← rv.length]; exact hz) (fun b hb => ?_) fun out h1 h2 => ?_
  · have := depAll_mem b.2 (mem b hb)
    rw [dat_dep]
    omega
  · obtain ⟨v1, v2⟩ := each_vals h2
    have e3 : ((xs.zip l).mergeSort (PySem.W.dataLe false fun b : Itm => b.2.dat)).map (·.2) = isort l :=
      (PySem.W.sort_maps (r := PySem.W.dataLe false fun b : Itm => b.2.dat) (s := leD) (fun b : Itm => b.2) fun _ _ _ _ => rfl).trans (by rw [e2, merge_isort A])
    rw [e3] at v2
    generalize ((xs.zip l).mergeSort (PySem.W.dataLe false fun b : Itm => b.2.dat)).map (·.1) = ov at v1 v2
    obtain ⟨ep, he'⟩ := PyProof.Rows.sortedAll_at s.heap its out.toArray
    have hlen2 : ov.length ≤ sizeLine := by
      rw [v1.length, h1, ← ei.length, ← rv.length]
      exact hz
    exact ⟨.ref _, L2.upd H (s.heap.objs.size + 1) (.lst ov), I.laid (t' := s.toks) (fun _ _ => PyProof.Rows.sortedAll_old) (Nat.le_succ _) ⟨hlen2, out, ep, v1, he'⟩, rfl, q _ _ (I.hok.fresh (Nat.le_succ _)) v2⟩
end Pv
namespace Pv
open PySem PySem.Spec PyProof.Rows L2
def adr : V → Addr
  | .ref a => a
  | _ => 0
abbrev ofIt (b : Itm) : Addr × NestedKey := (adr b.1, keyOf b.2)
theorem perm_unmap {α β : Type} {f : α → β} : ∀ {l : List α} {m : List β}, m.Perm (l.map f) → ∃ l' : List α, l'.Perm l ∧ l'.map f = m := by
  intro l m h
  generalize e : l.map f = n at h
  induction h generalizing l with
  | nil => exact ⟨[], by cases l <;> simp_all, rfl⟩
  | cons x h ih =>
    cases l with
    | nil => cases e
    | cons y l =>
      injection e with e1 e2
      obtain ⟨l', p, q⟩ := ih e2
      exact ⟨y :: l', p.cons y, by rw [List.map_cons, q, e1]⟩
  | swap x y l0 =>
    rcases l with _ | ⟨a, _ | ⟨b, l⟩⟩ <;> simp at e
    obtain ⟨rfl, rfl, rfl⟩ := e
    exact ⟨b :: a :: l, List.Perm.swap a b l, rfl⟩
  | trans h1 h2 ih1 ih2 =>
    obtain ⟨l1, p1, q1⟩ := ih2 e
    obtain ⟨l2, p2, q2⟩ := ih1 q1
    exact ⟨l2, p2.trans p1, q2⟩
section
variable {P : Program} {w : World} {A : Around} {E : Value → Shared → Prop} {s : Shared} {a : Addr} {es : Array (Int × Value)} {t : SetTable}
theorem each_ref : ∀ B : List Itm, PySem.W.EachIs (fun u (b : Itm) => u = Value.ref (adr b.1)) (B.map fun b => Value.ref (adr b.1)) B
  | [] => .nil
  | _ :: B => .cons rfl (each_ref B)
theorem each_rd {h : Heap} {c : Addr} : ∀ B : List Itm, (∀ b ∈ B, Reads h (.ref (adr b.1)) b.2.dat []) → PySem.W.EachIs (fun v (b : Itm) => ∃ as, Reads h v b.2.dat as ∧ c ∉ as) (B.map fun b => Value.ref (adr b.1)) B
  | [], _ => .nil
  | b :: B, h => .cons ⟨[], h b (by simp), by simp⟩ (each_rd B fun x hx => h x (by simp [hx]))
/-- sorted(a set of tuples) -/
theorem sorted_set_raw {B : List Itm} (R : NSet w s.heap a (B.map ofIt) es t) (hh : A.handled = none) (rd : ∀ b ∈ B, Reads s.heap (.ref (adr b.1)) b.2.dat []) (al : PySem.W.AllAlike (B.map fun b => b.2.dat)) (so : PySem.W.Sortable (B.map fun b => b.2.dat))
    (hu : A.units + 80 < cLine) (hd : ∀ b ∈ B, b.2.dep ≤ 62) {Q : Value → Shared → Prop}
    (q : ∀ s' p (out : List Value) c (B' : List Itm), B'.Perm B → (∀ b o, s.heap.get? b = some o → s'.heap.get? b = some o) → s'.gens = s.gens → s'.os = s.os → s.heap.objs.size ≤ p →
      s'.heap.get? p = some (seqObj "list" out.toArray c) → PySem.W.EachIs (fun u (b : Itm) => u = Value.ref (adr b.1)) out (B'.mergeSort (PySem.W.dataLe false fun b : Itm => b.2.dat)) → Q (.ref p) s') :
    wpAny (model P w) A (call (.builtin "sorted") [.ref a]) Q E s := by
  obtain ⟨o, ep, ho, hex, hdt⟩ := R.ob
  have hsz := R.size
  have few := R.few
  refine Calls.call_function_entry kind_sorted plain_sorted entry_sorted (args_sorted1 _) ?_
  unfold Builtin.«sorted»
  refine wpAny_bind (m := checkCount "sorted" 1 1 _) (wpAny_pure ?_)
  refine wpAny_bind (collect_set (A := A.in1) hh ⟨o, ho, hex.1, hdt⟩ R.fits (by unfold scanBound; omega) R.tab.ris R.led fun s1 vs k1 hz g1 o1 pm => ?_)
  have e1 : es.toList.map (·.2) = B.map fun b => Value.ref (adr b.1) := by
    rw [R.rows, List.map_map, List.map_map]
    rfl
  rw [e1] at pm
  obtain ⟨B', hp, rfl⟩ := perm_unmap pm
  have hlen : B'.length < 64 := by rw [hp.length_eq]; simpa using few
  refine wpAny_bind (wpAny_newList ?_ (by rw [List.length_map, sizeLine_eq]; omega))
  have hoL : (s1.heap.push (seqObj "list" (B'.map fun b => Value.ref (adr b.1)).toArray 0)).get? s1.heap.objs.size = some (seqObj "list" (B'.map fun b => Value.ref (adr b.1)).toArray 0) := Heap.get?_push_size _ rfl
  have keep1 : ∀ b u, s.heap.get? b = some u → (s1.heap.push (seqObj "list" (B'.map fun b => Value.ref (adr b.1)).toArray 0)).get? b = some u := fun b u e => Heap.get?_push_of_some _ (k1 b u e)
  have rd1 : ∀ b ∈ B', Reads (s1.heap.push (seqObj "list" (B'.map fun b => Value.ref (adr b.1)).toArray 0)) (.ref (adr b.1)) b.2.dat [] := fun b hb => PyProof.Rows.Reads.keeps (fun b o e => keep1 b o e) (rd b (hp.mem_iff.mp hb))
  have mapP : (B'.map fun b => b.2.dat).Perm (B.map fun b => b.2.dat) := hp.map _
  refine wpAny_bind (wpAny_holding (PySem.W.list_sort_data (s := { s1 with heap := s1.heap.push (seqObj "list" (B'.map fun b => Value.ref (adr b.1)).toArray 0) }) (enc := fun b : Itm => b.2.dat) hoL (each_ref B') (each_rd B' rd1)
    (fun d hd d' hd' => al d (mapP.mem_iff.mp hd) d' (mapP.mem_iff.mp hd')) ?so (by rw [sizeLine_eq]; omega) (fun b hb => ?hu) fun out h1 h2 => ?_))
  case so =>
    rcases so with so | so
    · exact .inl fun d hd => so d (mapP.mem_iff.mp hd)
    · exact .inr fun d hd => so d (mapP.mem_iff.mp hd)
  case hu =>
    have := hd b (hp.mem_iff.mp hb)
    rw [dat_dep]
    simp
    omega
  obtain ⟨c, hc⟩ := sortedHeap_at (vs := B'.map fun b => Value.ref (adr b.1)) (out := out.toArray) hoL
  refine wpAny_pure ⟨_, rfl, q _ s1.heap.objs.size out c B' hp (fun b u e => ?_) g1 o1 hz hc h2⟩
  have k := k1 b u e
  have hlt := Heap.lt_size k
  show (sortedHeap (s1.heap.push (seqObj "list" (B'.map fun b => Value.ref (adr b.1)).toArray 0)) s1.heap.objs.size (B'.map fun b => Value.ref (adr b.1)) out.toArray).get? b = some u
  rw [sortedHeap_old (Nat.ne_of_lt hlt) (by rw [size_push']; exact Nat.lt_succ_of_lt hlt)]
  exact Heap.get?_push_of_some _ k
end
/-! ### what the set holds -/
theorem set_ok {l : List PV} (h : setable l = true) : (∀ v ∈ l, v.keyB = true) ∧ (∀ v ∈ l, ∃ y r, v = .tup (y :: r)) ∧ (∀ v ∈ l, v.dep ≤ 8) ∧ l.length < 64 := by
  unfold setable at h
  simp only [Bool.and_eq_true, decide_eq_true_eq, List.all_eq_true] at h
  obtain ⟨⟨⟨h1, h2⟩, h3⟩, h4⟩ := h
  refine ⟨keyBAll_mem h1, fun v hv => ?_, fun v hv => Nat.le_trans (depAll_mem v hv) h3, h4⟩
  have := h2 v hv
  cases v <;> simp [PV.tup1] at this
  rename_i r
  cases r with
  | nil => simp [PV.tup1] at this
  | cons y r => exact ⟨y, r, rfl⟩
theorem zip_mem {K : PySem.W.Frag} {H : Hp} : ∀ {xs : List V} {l : List PV}, FzAll K H xs l → ∀ b ∈ xs.zip l, Fz K H b.1 b.2 ∧ b.2 ∈ l
  | _, _, .nil, b, h => by cases h
  | _, _, .cons r t, b, h => by
    rcases List.mem_cons.mp (show b ∈ (_, _) :: _ from h) with rfl | h
    · exact ⟨r, by simp⟩
    · obtain ⟨h1, h2⟩ := zip_mem t b h
      exact ⟨h1, by simp [h2]⟩
theorem fz_ref {K : PySem.W.Frag} {H : Hp} {b : Itm} (h : Fz K H b.1 b.2) (ht : ∃ y r, b.2 = .tup (y :: r)) : b.1 = .ref (adr b.1) := by
  obtain ⟨x, v⟩ := b
  obtain ⟨y, r, e⟩ := ht
  have e : v = .tup (y :: r) := e
  subst e
  have h : Fz K H x (.tup (y :: r)) := h
  cases h
  rfl
theorem zip_refs {K : PySem.W.Frag} {H : Hp} : ∀ {ys : List V} {m : List PV} {us : List Value}, FzAll K H ys m → Vals ys us → (∀ b ∈ ys.zip m, b.1 = .ref (adr b.1)) → us = ((ys.zip m).map ofIt).map fun p => Value.ref p.1
  | _, _, _, .nil, v, _ => by cases v; rfl
  | y :: ys, _ :: m, _, .cons a b, .cons r t, hr => by
    have e : y = V.ref (adr y) := hr _ (List.mem_cons_self ..)
    rw [e] at r
    cases r
    rw [List.zip_cons_cons, List.map_cons, List.map_cons, ← zip_refs b t fun b hb => hr b (List.mem_cons_of_mem _ hb)]
theorem refs_items {K : PySem.W.Frag} {H : Hp} : ∀ {us : List Value} {C : List Itm}, PySem.W.EachIs (fun u (b : Itm) => u = Value.ref (adr b.1)) us C → (∀ b ∈ C, Fz K H b.1 b.2 ∧ b.1 = .ref (adr b.1)) → PySem.W.EachIs (ItR K H) us C
  | _, _, .nil, _ => .nil
  | _, _, .cons r t, h => .cons ⟨by rw [(h _ (List.mem_cons_self ..)).2, r]; rfl, (h _ (List.mem_cons_self ..)).1⟩ (refs_items t fun b hb => h b (List.mem_cons_of_mem _ hb))
/-- the items behind the set's entries -/
theorem set_items {Z : List Itm} : ∀ {L : List (Addr × NestedKey)}, (∀ p ∈ L, p ∈ Z.map ofIt) → ∃ B : List Itm, B.map ofIt = L ∧ ∀ b ∈ B, b ∈ Z
  | [], _ => ⟨[], rfl, fun _ h => by cases h⟩
  | p :: L, h => by
    obtain ⟨b, hb, e⟩ := List.mem_map.mp (h p (by simp))
    obtain ⟨B, e2, hB⟩ := set_items (L := L) fun q hq => h q (by simp [hq])
    exact ⟨b :: B, by rw [List.map_cons, e, e2], fun c hc => by
      rcases List.mem_cons.mp hc with rfl | hc
      · exact hb
      · exact hB c hc⟩
/-- .. are the unlike ones of the list -/
theorem set_same {Z B : List Itm} {l : List PV} (hz : Z.map (·.2) = l) (hk : ∀ v ∈ l, v.keyB = true) (hB : ∀ b ∈ B, b ∈ Z) (nd : ((B.map ofIt).map (·.2)).Nodup) (all : ∀ p ∈ Z.map ofIt, p.2 ∈ (B.map ofIt).map (·.2)) :
    (B.map (·.2)).Nodup ∧ ∀ x, x ∈ B.map (·.2) ↔ x ∈ l := by
  have inl : ∀ b ∈ Z, b.2 ∈ l := fun b hb => by rw [← hz]; exact List.mem_map.mpr ⟨b, hb, rfl⟩
  constructor
  · have nd2 : ((B.map (·.2)).map keyOf).Nodup := by
      rw [List.map_map]
      rw [List.map_map] at nd
      exact nd
    exact List.Pairwise.of_map keyOf (fun a b h e => h (congrArg keyOf e)) nd2
  · intro x
    constructor
    · intro h
      obtain ⟨b, hb, rfl⟩ := List.mem_map.mp h
      exact inl b (hB b hb)
    · intro h
      rw [← hz] at h
      obtain ⟨b, hb, rfl⟩ := List.mem_map.mp h
      have := all (ofIt b) (List.mem_map.mpr ⟨b, hb, rfl⟩)
      rw [List.map_map] at this
      obtain ⟨c, hc, e⟩ := List.mem_map.mp this
      have e : keyOf c.2 = keyOf b.2 := e
      exact List.mem_map.mpr ⟨c, hc, keyOf_inj (hk _ (inl c (hB c hc))) (hk _ (inl b hb)) e⟩
/-- what is asked of the set's argument -/
def SetArg (K : PySem.W.Frag) (H : Hp) (x : V) (l : List PV) : Prop := ∃ (a : Addr) (xs : List V), x = .ref a ∧ (SqL K H a xs ∨ SqT K H a xs) ∧ FzAll K H xs l ∧ setable l = true
section
variable {X : Cx} {pins : List (Addr × Obj)} {σ : L2.St} {H : Hp} {s : Shared}
/-- set(list), set(tuple) of tuples -/
theorem call_setA (I : L2.Inv X pins σ H s) (hc : X.calm = true) (hu : X.A.units + 80 < cLine) {x : V} {u : Value} {l : List PV} (r : RelV x u) (h : SetArg X.K H x l) {Q : Value → Shared → Prop}
    (q : ∀ (h' : Heap) (tk : Nat) (B : List Itm) es t, NSet X.w h' s.heap.objs.size (B.map ofIt) es t → (∀ b o, s.heap.get? b = some o → h'.get? b = some o) → L2.Inv X pins σ H { s with heap := h', toks := tk } →
      (∀ b ∈ B, Fz X.K H b.1 b.2 ∧ b.2 ∈ l ∧ b.1 = .ref (adr b.1)) → (B.map (·.2)).Nodup → (∀ x, x ∈ B.map (·.2) ↔ x ∈ l) → Q (.ref s.heap.objs.size) { s with heap := h', toks := tk }) :
    wpAny (model X.prog X.w) X.A (call (.type "set") [u]) Q X.xe s := by
  obtain ⟨a, xs, rfl, hs, hf, hset⟩ := h
  cases r
  obtain ⟨k1, k2, k3, k4⟩ := set_ok hset
  have hlen : xs.length = l.length := FzAll.length hf
  have hz := zip_snd hlen
  have zm := zip_mem hf
  have zr : ∀ b ∈ xs.zip l, b.1 = .ref (adr b.1) := fun b hb => fz_ref (zm b hb).1 (k2 _ (zm b hb).2)
  have fin : ∀ (its : List Value), Vals xs its → its = ((xs.zip l).map ofIt).map fun p => Value.ref p.1 := fun its rv => by
    exact zip_refs hf rv zr
  have nis : ∀ p ∈ (xs.zip l).map ofIt, NIs s.heap p.2 p.1 := fun p hp => by
    obtain ⟨b, hb, rfl⟩ := List.mem_map.mp hp
    have e := zr b hb
    exact ⟨fz_key I (k1 _ (zm b hb).2) (zm b hb).1 (by rw [e]; rfl), by rw [keyOf_dep (k1 _ (zm b hb).2)]; exact k3 _ (zm b hb).2, keyOf_num (k1 _ (zm b hb).2)⟩
  have few : ((xs.zip l).map ofIt).length < 64 := by rw [List.length_map, List.length_zip, hlen, Nat.min_self]; exact k4
  have done : ∀ (h' : Heap) (tk : Nat) L es t, NSet X.w h' s.heap.objs.size L es t → Has ((xs.zip l).map ofIt) ((xs.zip l).map ofIt).length L → (∀ b o, s.heap.get? b = some o → h'.get? b = some o) → Q (.ref s.heap.objs.size) { s with heap := h', toks := tk } := fun h' tk L es t R g kp => by
    obtain ⟨B, rfl, hB⟩ := set_items (Z := xs.zip l) (L := L) fun p hp => List.mem_of_mem_take (g.sub p hp)
    obtain ⟨n1, n2⟩ := set_same hz k1 hB R.nd fun p hp => g.all p (by rw [List.take_length]; exact hp)
    exact q h' tk B es t R kp (I.kept kp) (fun b hb => ⟨(zm b (hB b hb)).1, (zm b (hB b hb)).2, zr b (hB b hb)⟩) n1 n2
  rcases hs with hs | hs
  · obtain ⟨its, rv, hl, _⟩ := I.list hs
    exact call_setN_list ((xs.zip l).map ofIt) (I.ok.hd hc) hl.isList (by simpa using fin its rv) nis few (by omega) done
  · obtain ⟨its, rv, hl, _⟩ := I.tuple hs
    exact call_setN_tuple ((xs.zip l).map ofIt) (I.ok.hd hc) hl (by simpa using fin its rv) nis few (by omega) done
end
def tSortSetJ (K : PySem.W.Frag) (w : World) (ta : TA) : TE := fun σ H Q => ta σ H fun vs H1 => ∃ x, vs = [x] ∧ ((∃ (a : Addr) (ns : List Int), x = .ref a ∧ SqT K H1 a (ns.map V.int) ∧ ns.length < 64 ∧ ∀ (p : Addr) (c : Nat), H1 p = none → c ≤ ns.length → rSortedSet w [.ref p] (L2.upd H1 p (SetO w p (fun j => decide (j ∈ ns)) c)) Q) ∨
  ∃ l, SetArg K H1 x l ∧ sortable l = true ∧ ∀ (p : Addr) (out : List V), H1 p = none → FzAll K H1 out (sortN l) → Q (.ref p) (L2.upd H1 p (.lst out)))
section
variable {X : Cx}
theorem pe_sortSetJ {a : Expr} {ta : TA} {p p2 q pos : Pos} (hc : X.calm = true) (hu : X.A.units + 80 < cLine) (hg : Gl X "sorted") (hm : X.mg "sorted" = none) (hg2 : Gl X "set") (hm2 : X.mg "set" = none) (ha : PA X [a] ta)
    (na : starEach [a] X.env = (false, eval a X.env) :: starEach [] X.env := by rfl) : PE X (.Call (.Name "sorted" p) [.Call (.Name "set" p2) [a] [] q] [] pos) (tSortSetJ X.K X.w ta) := by
  refine ⟨fun pins s σ H Q I h => ?_⟩
  refine Call_ (ld_blt I hg hm (by decide +kernel : bootBuiltins "sorted" = some (.builtin "sorted")) ?_)
  refine PyProof.Rows.callWith_builtin1 (PyProof.Rows.args_cons ?_ rfl) rfl rfl
  refine Call_ (ld_blt I hg2 hm2 PyProof.Rows.boot_set ?_)
  refine PyProof.Rows.callWith_type1 (thn (ha.run _ pins s σ H _ I h) fun us s1 ⟨vs, H1, I1, rv1, q1⟩ => ?_) na rfl
  obtain ⟨x, rfl, q1⟩ := q1
  obtain ⟨u, rfl, r1⟩ : ∃ u, us = [u] ∧ RelV x u := by
    cases rv1 with
    | cons r t => cases t; exact ⟨_, rfl, r⟩
  rcases q1 with ⟨b, ns, rfl, hq, hl, q1⟩ | ⟨l, hs, hsort, q1⟩
  · cases r1
    obtain ⟨vals, rv, pt, _⟩ := I1.tuple hq
    have hints : IntsAre vals.toArray.toList ns := ints_of_vals rv
    refine call_set_tupI ns (I1.ok.hd hc) (items := vals.toArray) pt hints (by unfold scanBound; omega) fun h' tk c R1 hcn kp => ?_
    refine PyProof.Rows.args_nil ?_
    exact cr_sortedSet hc pins _ σ _ [.ref s1.heap.objs.size] [.ref s1.heap.objs.size] Q (I1.laid (t' := tk) kp (Nat.le_refl _) (setO_new R1)) (.cons rfl .nil) (q1 _ c (I1.hok.fresh (Nat.le_refl _)) hcn)
  refine call_setA I1 hc hu r1 hs fun h' tk B es t R kp I2 hB nd mem => ?_
  refine PyProof.Rows.args_nil ?_
  obtain ⟨_, _, _, _, _, a4⟩ := hs
  obtain ⟨k1, _, k3, k4⟩ := set_ok a4
  obtain ⟨A, al, so⟩ := sortable_ok hsort
  have sub : ∀ d ∈ B.map (fun b => b.2.dat), d ∈ l.map PV.dat := fun d hd => by
    obtain ⟨b, hb, rfl⟩ := List.mem_map.mp hd
    exact List.mem_map.mpr ⟨_, (hB b hb).2.1, rfl⟩
  refine sorted_set_raw R (I2.ok.hd hc) (fun b hb => fz_plain I2 (A.key _ (hB b hb).2.1) (hB b hb).1 (by rw [(hB b hb).2.2]; rfl)) (fun d hd d' hd' => al d (sub d hd) d' (sub d' hd')) ?_ hu (fun b hb => by have := k3 _ (hB b hb).2.1; omega)
    fun s' p out c B' pm kp2 g2 o2 hp hobj he => ?_
  · rcases so with so | so
    · exact .inl fun d hd => so d (sub d hd)
    · exact .inr fun d hd => so d (sub d hd)
  · have e3 : (B'.mergeSort (PySem.W.dataLe false fun b : Itm => b.2.dat)).map (·.2) = sortN l := by
      refine (PySem.W.sort_maps (r := PySem.W.dataLe false fun b : Itm => b.2.dat) (s := leD) (fun b : Itm => b.2) fun _ _ _ _ => rfl).trans ?_
      have p2 := pm.map (fun b : Itm => b.2)
      exact sorted_set A (p2.nodup_iff.mpr nd) fun x => (p2.mem_iff).trans (mem x)
    have hB' : ∀ b ∈ B'.mergeSort (PySem.W.dataLe false fun b : Itm => b.2.dat), Fz X.K H1 b.1 b.2 ∧ b.1 = .ref (adr b.1) := fun b hb => by
      have := hB b (pm.mem_iff.mp ((List.mergeSort_perm _ _).mem_iff.mp hb))
      exact ⟨this.1, this.2.2⟩
    have hlen : (B'.mergeSort (PySem.W.dataLe false fun b : Itm => b.2.dat)).length < 64 := by
      rw [(List.mergeSort_perm _ _).length_eq, pm.length_eq]
      have := R.few
      rwa [List.length_map] at this
    generalize B'.mergeSort (PySem.W.dataLe false fun b : Itm => b.2.dat) = C at he e3 hB' hlen
    have e4 : PySem.W.EachIs (ItR X.K H1) out C := refs_items he hB'
    obtain ⟨v1, v2⟩ := each_vals e4
    rw [e3] at v2
    have hn : H1 p = none := I2.hok.fresh hp
    have hz : (C.map (·.1)).length ≤ sizeLine := by rw [List.length_map, sizeLine_eq]; omega
    obtain ⟨hp2, gn, dr, tk2, os2⟩ := s'
    have eg : gn = s1.gens := g2
    have eo : os2 = s1.os := o2
    subst eg eo
    refine ⟨.ref p, L2.upd H1 p (.lst (C.map (·.1))), ?_, rfl, q1 p _ hn v2⟩
    have J := I2.call (ch := []) (H' := L2.upd H1 p (.lst (C.map (·.1)))) (g' := s1.gens) (t' := tk2) (d' := dr) (Un.laid kp2 hp hn) (I2.hok.laid kp2 hp ⟨hz, out, c, v1, hobj⟩) I2.bare (fun _ z => nomatch z)
    exact J
/-! ### len(set(a list of ints)) -/
theorem met_nodup (f : Nat → Int) : ∀ i, (firstMet f i).Nodup
  | 0 => List.nodup_nil
  | i + 1 => by
    rw [firstMet_succ]
    unfold step_dedup
    split
    · exact met_nodup f i
    · rename_i h
      refine List.nodup_append.mpr ⟨met_nodup f i, by simp, fun a ha b hb e => h ?_⟩
      have hb : b = f i := by simpa using hb
      subst hb
      exact List.any_eq_true.mpr ⟨a, ha, by simpa using e⟩
theorem met_mem (ns : List Int) (k : Int) : k ∈ firstMet (fun i => ns.getD i 0) ns.length ↔ k ∈ ns := by
  have h := firstMet_any (fun i => ns.getD i 0) ns.length k
  have e : (List.range ns.length).map (fun i => ns.getD i 0) = ns := by
    refine List.ext_getElem (by simp) fun i h1 h2 => ?_
    simp [List.getD_eq_getElem?_getD, List.getElem?_eq_getElem h2]
  rw [e] at h
  have m : ∀ l : List Int, l.any (· == k) = true ↔ k ∈ l := fun l => by simp
  rw [← m, ← m, h]
theorem met_dist (ns : List Int) : (firstMet (fun i => ns.getD i 0) ns.length).length = (dist (ns.map PV.int)).length := by
  have h := dist_len (l := ns.map PV.int) (m := (firstMet (fun i => ns.getD i 0) ns.length).map PV.int) (fun y hy => by obtain ⟨i, _, rfl⟩ := List.mem_map.mp hy; rfl)
    (List.Pairwise.map _ (fun a b h e => h (by injection e)) (met_nodup _ _)) (fun x => by
      constructor
      · intro h
        obtain ⟨i, hi, rfl⟩ := List.mem_map.mp h
        exact List.mem_map.mpr ⟨i, (met_mem ns i).mp hi, rfl⟩
      · intro h
        obtain ⟨i, hi, rfl⟩ := List.mem_map.mp h
        exact List.mem_map.mpr ⟨i, (met_mem ns i).mpr hi, rfl⟩)
  rwa [List.length_map] at h
def tLenSetJ (K : PySem.W.Frag) (ta : TA) : TE := fun σ H Q => ta σ H fun vs H1 => ∃ x, vs = [x] ∧ ((∃ (a : Addr) (ns : List Int), x = .ref a ∧ SqL K H1 a (ns.map V.int) ∧ ns.length ≤ 1000 ∧ Q (.int (dist (ns.map PV.int)).length) H1) ∨ ∃ l, SetArg K H1 x l ∧ Q (.int (dist l).length) H1)
theorem pe_lenSetJ {a : Expr} {ta : TA} {p p2 q pos : Pos} (hc : X.calm = true) (hu : X.A.units + 80 < cLine) (hg : Gl X "len") (hm : X.mg "len" = none) (hg2 : Gl X "set") (hm2 : X.mg "set" = none) (ha : PA X [a] ta)
    (na : starEach [a] X.env = (false, eval a X.env) :: starEach [] X.env := by rfl) : PE X (.Call (.Name "len" p) [.Call (.Name "set" p2) [a] [] q] [] pos) (tLenSetJ X.K ta) := by
  refine ⟨fun pins s σ H Q I h => ?_⟩
  refine Call_ (ld_blt I hg hm PySem.boot_len ?_)
  refine PyProof.Rows.callWith_builtin1 (PyProof.Rows.args_cons ?_ rfl) rfl rfl
  refine Call_ (ld_blt I hg2 hm2 PyProof.Rows.boot_set ?_)
  refine PyProof.Rows.callWith_type1 (thn (ha.run _ pins s σ H _ I h) fun us s1 ⟨vs, H1, I1, rv1, q1⟩ => ?_) na rfl
  obtain ⟨x, rfl, q1⟩ := q1
  obtain ⟨u, rfl, r1⟩ : ∃ u, us = [u] ∧ RelV x u := by
    cases rv1 with
    | cons r t => cases t; exact ⟨_, rfl, r⟩
  rcases q1 with ⟨l, ns, rfl, hq, h1, q1⟩ | ⟨l, hs, q1⟩
  · cases r1
    obtain ⟨its, r, pl, hz⟩ := I1.list hq
    have hl : its.toArray.size = ns.length := by rw [List.size_toArray, ← r.length, List.length_map]
    refine call_set_list (I1.ok.hd hc) pl.isList (ns := ns) (by simpa using r.ints) (by unfold scanBound; omega) fun h' tk hS hk => ?_
    rw [hl, met_dist] at hS
    refine PyProof.Rows.args_nil ?_
    obtain ⟨o, es, ep, t, ho, hex, hd, _, _, _, hf, hn⟩ := hS
    have I2 : L2.Inv X pins σ H1 { s1 with heap := h', toks := tk } := I1.kept fun b o e => hk b o (Heap.lt_size e) e
    have small : (dist (ns.map PV.int)).length ≤ 1000 := by
      rw [← met_dist]
      have := firstMet_length_le (fun i => ns.getD i 0) ns.length
      omega
    exact call_len_set ho hex hd hf (by rw [hn]; omega) ⟨.int (dist (ns.map PV.int)).length, H1, I2.tok _, ⟨_, by rw [hn]⟩, q1⟩
  · refine call_setA I1 hc hu r1 hs fun h' tk B es t R kp I2 _ nd mem => ?_
    refine PyProof.Rows.args_nil ?_
    obtain ⟨o, ep, ho, hex, hd⟩ := R.ob
    obtain ⟨_, _, _, _, _, a4⟩ := hs
    obtain ⟨k1, _, _, k4⟩ := set_ok a4
    have e : es.size = (dist l).length := by
      rw [R.size, List.length_map, ← dist_len (fun y hy => keyB_S (k1 y hy)) nd mem, List.length_map]
    have few := R.few
    have hsz := R.size
    exact call_len_set ho hex hd R.fits (by omega) ⟨.int (dist l).length, H1, I2.tok _, ⟨_, by rw [e]⟩, q1⟩
end
end Pv
namespace Pv
open PySem PySem.Spec PyProof.Rows L2
/-! ### the text's surroundings -/
/-- a def that calls what it is given and tells how that ends -/
structure Hl where
  x : Str
  ws : Cls
  d : An
  deriving DecidableEq
structure Glo where
  P : Program
  w : World
  K : PySem.W.Frag
  mg : Str → Option Value
  base : Heap
  pr : Prg
  fa : List Addr
  fx : List Str
  cx : List Str
  ca : List Addr
  kx : List Str
  bx : List Str
  T : List (Addr × Str)
  sub : List (Nat × Nat)
  hx : List Hl
def argsOf : Arguments → Option (List Arg)
  | ⟨[], as, none, [], [], none, []⟩ => some as
  | _ => none
theorem argsOf_eq {a : Arguments} {as : List Arg} (h : argsOf a = some as) : a = ⟨[], as, none, [], [], none, []⟩ := by
  unfold argsOf at h
  split at h
  · cases h; rfl
  · cases h
def noPar (a : Arguments) : Bool := match argsOf a with
  | some [] => true
  | _ => false
theorem noPar_eq {a : Arguments} (h : noPar a = true) : a = ⟨[], [], none, [], [], none, []⟩ := by
  unfold noPar at h
  split at h
  · rename_i e
    exact argsOf_eq e
  · cases h
def gloB (sc : Scope) (x : Str) : Bool := decide (sc.names.lookup x = some .globalImplicit) && !(x == ("__debug__" : Str))
def anB : An → Const → Bool
  | .word l, .str x => decide (x = ⟨l.toArray⟩) && PyData.strOk ⟨l.toArray⟩ && decide (l.length ≤ 1000)
  | .truth b, .bool c => b == c
  | _, _ => false
/-- the clauses: each names a class and returns a constant -/
def hdB (kx : List Str) (sub : List (Nat × Nat)) (sc : Scope) : Cls → List ExceptHandler → Bool
  | [], [] => true
  | (j, l, w) :: ws, .ExceptHandler (some (.Name x _)) none [.Return (some (.Constant c _ _)) _] _ :: hds => decide (kx[j]? = some x) && gloB sc x && decide (l = (sub.filter fun q => q.2 == j).map (·.1)) && anB w c && hdB kx sub sc ws hds
  | _, _ => false
/-- a def that calls what it is given: its text -/
def hlB (kx : List Str) (sub : List (Nat × Nat)) (h : Hl) (st : Stmt) : Bool := match argsOf (defArgs st), defBody st with
  | some [a], [.Try [.Expr (.Call (.Name y _) [] [] _) _] (h0 :: hds) [] [] _, .Return (some (.Constant c _ _)) _] => decide (y = a.arg) && !(a.arg == ("__debug__" : Str)) && !(a.arg == ("__classdict__" : Str)) && !(h.x == ("__debug__" : Str)) &&
    decide ((defScope st).kind = .function) && !(defScope st).isCoroutine && !(defScope st).isGenerator && decide ((defScope st).names.lookup a.arg = some .local) && (defScope st).names.all (fun y => decide (y.2 ≠ .free)) && anB h.d c && hdB kx sub (defScope st) h.ws (h0 :: hds)
  | _, _ => false
structure GOk (G : Glo) : Prop where
  con : ∀ (i : Nat) (x : Str), G.cx[i]? = some x → ∃ v u y, G.pr.con[i]? = some v ∧ G.mg x = some u ∧ RelV y u ∧ ∀ H, Fz G.K H y v
  fn : ∀ (i : Nat) (x : Str), G.fx[i]? = some x → ∃ a, G.fa[i]? = some a ∧ G.mg x = some (.ref a) ∧ PySem.W.keepIn G.K (.ref a) = true
  bt : ∀ x ∈ G.bx, G.mg x = none
  cls : ∀ (i : Nat) (x : Str), G.kx[i]? = some x → ∃ C, G.ca[i]? = some C ∧ G.mg x = some (.ref C) ∧ PySem.W.excIn G.K C He.veBase "ValueError.__new__" = true ∧ PySem.W.keepIn G.K (.ref C) = true ∧
    PySem.W.subIn G.K (.ref C) (.type "BaseException") = some true ∧ PySem.W.typeIn G.K (.ref C) = some (.type "type")
  ctup : ∀ (i : Nat) (x : Str) (l : List PV), G.cx[i]? = some x → G.pr.con[i]? = some (.tup l) → ∃ a o, G.mg x = some (.ref a) ∧ G.K.lookup a = some o ∧ o.cls = .type "tuple" ∧ o.dict = none ∧ ∃ xs, ∀ H, SqT G.K H a xs ∧ FzAll G.K H xs l
  exm : G.hx ≠ [] → ∀ (i j : Nat) (a b : Addr), G.ca[i]? = some a → G.ca[j]? = some b → PySem.W.exmOne G.K (.ref a) (.ref b) = some (G.sub.contains (i, j))
  hlp : ∀ h ∈ G.hx, ∃ (g : Addr) (st : Stmt) (fd : FuncData), G.mg h.x = some (.ref g) ∧ PySem.W.keepIn G.K (.ref g) = true ∧ FunD G.K h.x h.x (defArgs st) (defBody st) (defScope st) [] [] g fd ∧ hlB G.kx G.sub h st = true
def isTbl : HO → Bool
  | .tbl _ => true
  | _ => false
abbrev Al := List Addr
def Le (α β : Al) : Prop := ∀ (k : Nat) (a : Addr), α[k]? = some a → β[k]? = some a
theorem Le.refl {α : Al} : Le α α := fun _ _ e => e
theorem Le.trans {α β γ : Al} (a : Le α β) (b : Le β γ) : Le α γ := fun k x e => b k x (a k x e)
theorem Le.snoc {α : Al} {p : Addr} : Le α (α ++ [p]) := fun k a e => by
  rw [List.getElem?_append_left (by have := (List.getElem?_eq_some_iff.mp e).1; omega)]; exact e
/-- a step: what is read stays, cells are new, what is no cell stays -/
structure Stp (H : Hp) (α : Al) (H' : Hp) (α' : Al) : Prop where
  ext : Ext H H'
  le : Le α α'
  new : ∀ a ∈ α', a ∈ α ∨ ∀ o, H a = some o → isTbl o = true
  keep : ∀ a o, H a = some o → isTbl o = false → a ∉ α → H' a = some o
  there : ∀ a o, H a = some o → isTbl o = false → ∃ o', H' a = some o' ∧ isTbl o' = false
theorem Stp.refl {H : Hp} {α : Al} : Stp H α H α := ⟨Ext.refl, Le.refl, fun _ h => .inl h, fun _ _ e _ _ => e, fun _ o h z => ⟨o, h, z⟩⟩
theorem Stp.trans {H H1 H2 : Hp} {α α1 α2 : Al} (a : Stp H α H1 α1) (b : Stp H1 α1 H2 α2) : Stp H α H2 α2 := by
  refine ⟨a.ext.trans b.ext, a.le.trans b.le, fun x hx => ?_, fun x o e z hx => ?_, fun x o e z => ?_⟩
  · rcases b.new x hx with h | h
    · exact a.new x h
    · refine .inr fun o e => ?_
      cases z : isTbl o with
      | true => rfl
      | false =>
        obtain ⟨o', e', z'⟩ := a.there x o e z
        rw [h o' e'] at z'
        cases z'
  · refine b.keep x o (a.keep x o e z hx) z fun w => ?_
    rcases a.new x w with h | h
    · exact hx h
    · rw [h o e] at z
      cases z
  · obtain ⟨o', e', z'⟩ := a.there x o e z
    exact b.there x o' e' z'
theorem upd_there {H : Hp} {p : Addr} {o : HO} (ho : isTbl o = false := by rfl) (a : Addr) (u : HO) (h : H a = some u) (z : isTbl u = false) : ∃ o', L2.upd H p o a = some o' ∧ isTbl o' = false := by
  unfold L2.upd
  split
  · exact ⟨o, rfl, ho⟩
  · exact ⟨u, h, z⟩
theorem upd_there0 {H : Hp} {p : Addr} {o : HO} (hp : H p = none) (a : Addr) (u : HO) (h : H a = some u) (z : isTbl u = false) : ∃ o', L2.upd H p o a = some o' ∧ isTbl o' = false :=
  ⟨u, by rw [upd_ne (ne_of_none h hp)]; exact h, z⟩
theorem Stp.laid {H : Hp} {α : Al} {p : Addr} {o : HO} (hp : H p = none) : Stp H α (L2.upd H p o) α :=
  ⟨Ext.new hp, Le.refl, fun _ h => .inl h, fun a u e _ _ => by rw [upd_ne (ne_of_none e hp)]; exact e, upd_there0 hp⟩
theorem Stp.snoc {H : Hp} {α : Al} {p : Addr} {o : HO} (hp : H p = none) : Stp H α (L2.upd H p o) (α ++ [p]) := by
  refine ⟨Ext.new hp, Le.snoc, fun a h => ?_, fun a u e _ _ => by rw [upd_ne (ne_of_none e hp)]; exact e, upd_there0 hp⟩
  rcases List.mem_append.mp h with h | h
  · exact .inl h
  · have e : a = p := by simpa using h
    rw [e]
    exact .inr fun o e => by rw [hp] at e; cases e
theorem Stp.set {H : Hp} {α : Al} {p : Addr} {xs : List V} {o : HO} (hp : H p = some (.lst xs)) (hm : p ∈ α) (ho : isTbl o = false := by rfl) : Stp H α (L2.upd H p o) α :=
  ⟨Ext.set hp, Le.refl, fun _ h => .inl h, fun a u e _ hn => by
    rw [upd_ne (fun z => hn (by rw [z]; exact hm))]; exact e, upd_there ho⟩
inductive Rp (G : Glo) (H : Hp) (α : Al) : V → PV → Prop
  | d {x : V} {v : PV} : Fz G.K H x v → Rp G H α x v
  | cell {k : Nat} {a : Addr} : α[k]? = some a → Rp G H α (.ref a) (.cell k)
  | fn {i : Nat} {a : Addr} : G.fa[i]? = some a → Rp G H α (.ref a) (.fn i)
abbrev RpAll (G : Glo) (H : Hp) (α : Al) : List V → List PV → Prop := Paired (Rp G H α)
theorem nd_ix {l : List Addr} (hN : l.Nodup) {i j : Nat} {x : Addr} (a : l[i]? = some x) (b : l[j]? = some x) : i = j := by
  obtain ⟨h1, e1⟩ := List.getElem?_eq_some_iff.mp a
  obtain ⟨h2, e2⟩ := List.getElem?_eq_some_iff.mp b
  exact (List.getElem_inj hN).mp (e1.trans e2.symm)
/-- the tables of code objects -/
theorem tabs_ext {T : List (Addr × Str)} {H H' : Hp} (t : LamX.Tabs T H) (e : ∀ b o, H b = some o → (isTbl o = true ∨ ∃ q, o = LamX.CodeO b q) → H' b = some o) : LamX.Tabs T H' := fun p hp => by
  obtain ⟨ps, h1, h2, h3⟩ := t p hp
  refine ⟨ps, e _ _ h1 (.inl rfl), h2, fun pos cv hc => ?_⟩
  obtain ⟨c, e1, e2⟩ := h3 pos cv hc
  exact ⟨c, e1, e _ _ e2 (.inr ⟨_, rfl⟩)⟩
theorem tabs_new {T : List (Addr × Str)} {H : Hp} {p : Addr} {o : HO} (t : LamX.Tabs T H) (hp : H p = none) : LamX.Tabs T (L2.upd H p o) := t.ext fun b u e => by rw [upd_ne (ne_of_none e hp)]; exact e
theorem tabs_set {T : List (Addr × Str)} {H : Hp} {p : Addr} {o u : HO} (t : LamX.Tabs T H) (hp : H p = some u) (h1 : isTbl u = false) (h2 : ∀ q, u ≠ LamX.CodeO p q) : LamX.Tabs T (L2.upd H p o) := tabs_ext t fun b v e k => by
  rw [upd_ne]
  · exact e
  · rintro rfl
    rw [hp] at e
    cases e
    rcases k with k | ⟨q, k⟩
    · rw [h1] at k; cases k
    · exact h2 q k
theorem tabs_lst {T : List (Addr × Str)} {H : Hp} {p : Addr} {o : HO} {xs : List V} (t : LamX.Tabs T H) (hp : H p = some (.lst xs)) : LamX.Tabs T (L2.upd H p o) := tabs_set t hp rfl fun q z => by unfold LamX.CodeO at z; cases z
structure MemR (G : Glo) (H : Hp) (α : Al) (m : Mem) : Prop where
  tab : LamX.Tabs G.T H
  len : α.length = m.length
  nd : α.Nodup
  at_ : ∀ (k : Nat) (a : Addr) (l : List PV), α[k]? = some a → m[k]? = some l → ∃ xs, H a = some (.lst xs) ∧ RpAll G H α xs l ∧ xs.length ≤ sizeLine
structure EnvR (G : Glo) (H : Hp) (α : Al) (ρ : Env) (σ : L2.St) : Prop where
  len : ρ.length = σ.length
  at_ : ∀ (i : Nat) (v : PV), ρ[i]? = some (some v) → ∃ x, σ[i]? = some (some x) ∧ Rp G H α x v
section
variable {G : Glo} {H H' H2 : Hp} {α α' β : Al}
theorem Fz.isD {K : PySem.W.Frag} {x : V} {v : PV} (h : Fz K H x v) : v.isD = true := by cases h <;> rfl
theorem Rp.fz {x : V} {v : PV} (h : Rp G H α x v) (d : v.isD = true) : Fz G.K H x v := by
  cases h with
  | d h => exact h
  | cell _ => cases d
  | fn _ => cases d
theorem Rp.ext (e : Ext H H') (l : Le α α') {x : V} {v : PV} (h : Rp G H α x v) : Rp G H' α' x v := by
  cases h with
  | d h => exact .d (h.ext e)
  | cell h => exact .cell (l _ _ h)
  | fn h => exact .fn h
theorem RpAll.ext (e : Ext H H') (l : Le α α') {xs : List V} {vs : List PV} (h : RpAll G H α xs vs) : RpAll G H' α' xs vs := Paired.mapP h fun _ _ r => r.ext e l
theorem RpAll.fz : ∀ {xs : List V} {vs : List PV}, RpAll G H α xs vs → vs.all PV.isD = true → FzAll G.K H xs vs
  | _, _, .nil, _ => .nil
  | _, _, .cons a b, h => by
    rw [List.all_cons, Bool.and_eq_true] at h
    exact .cons (a.fz h.1) (RpAll.fz b h.2)
theorem FzAll.rp : ∀ {xs : List V} {vs : List PV}, FzAll G.K H xs vs → RpAll G H α xs vs
  | _, _, .nil => .nil
  | _, _, .cons a b => .cons (.d a) (FzAll.rp b)
theorem FzAll.all {K : PySem.W.Frag} : ∀ {xs : List V} {vs : List PV}, FzAll K H xs vs → vs.all PV.isD = true
  | _, _, .nil => rfl
  | _, _, .cons a b => by rw [List.all_cons, a.isD, FzAll.all b]; rfl
theorem Paired.get' {α β : Type} {F : α → β → Prop} : ∀ {l₁ : List α} {l₂ : List β} {i : Nat} {y : β}, Paired F l₁ l₂ → l₂[i]? = some y → ∃ x, l₁[i]? = some x ∧ F x y
  | _, _, _, _, .nil, e => by simp at e
  | _, _, 0, _, .cons r _, e => by simp at e; subst e; exact ⟨_, rfl, r⟩
  | _, _, i + 1, _, .cons _ t, e => by
    obtain ⟨u, h1, h2⟩ := Paired.get' (i := i) t (by simpa using e)
    exact ⟨u, by simpa using h1, h2⟩
theorem Paired.append' {α β : Type} {F : α → β → Prop} : ∀ {a b : List α} {c d : List β}, Paired F a c → Paired F b d → Paired F (a ++ b) (c ++ d)
  | _, _, _, _, .nil, s => s
  | _, _, _, _, .cons r t, s => .cons r (Paired.append' t s)
theorem Paired.set' {α β : Type} {F : α → β → Prop} {x : α} {y : β} (r : F x y) : ∀ {a : List α} {c : List β} (i : Nat), Paired F a c → Paired F (a.set i x) (c.set i y)
  | _, _, _, .nil => .nil
  | _, _, 0, .cons _ t => .cons r t
  | _, _, i + 1, .cons q t => .cons q (Paired.set' r i t)
theorem Paired.take' {α β : Type} {F : α → β → Prop} : ∀ {a : List α} {c : List β} (i : Nat), Paired F a c → Paired F (a.take i) (c.take i)
  | _, _, 0, _ => .nil
  | _, _, _ + 1, .nil => .nil
  | _, _, i + 1, .cons q t => .cons q (Paired.take' i t)
theorem Paired.drop' {α β : Type} {F : α → β → Prop} : ∀ {a : List α} {c : List β} (i : Nat), Paired F a c → Paired F (a.drop i) (c.drop i)
  | _, _, 0, r => r
  | _, _, _ + 1, .nil => .nil
  | _, _, i + 1, .cons q t => Paired.drop' i t
theorem EnvR.ext (e : Ext H H') (l : Le α α') {ρ : Env} {σ : L2.St} (h : EnvR G H α ρ σ) : EnvR G H' α' ρ σ :=
  ⟨h.len, fun i v q => let ⟨x, h1, h2⟩ := h.at_ i v q; ⟨x, h1, h2.ext e l⟩⟩
theorem EnvR.set {ρ : Env} {σ : L2.St} (h : EnvR G H α ρ σ) {x : V} {v : PV} (r : Rp G H α x v) (i : Nat) : EnvR G H α (ρ.set i (some v)) (σ.set i (some x)) := by
  refine ⟨by rw [List.length_set, List.length_set]; exact h.len, fun j w q => ?_⟩
  by_cases hj : i = j
  · subst hj
    by_cases hi : i < ρ.length
    · rw [List.getElem?_set_self hi] at q
      cases q
      exact ⟨x, by rw [List.getElem?_set_self (by rw [← h.len]; exact hi)], r⟩
    · rw [List.getElem?_eq_none (by rw [List.length_set]; omega)] at q; cases q
  · rw [List.getElem?_set_ne hj] at q
    obtain ⟨y, h1, h2⟩ := h.at_ j w q
    exact ⟨y, by rw [List.getElem?_set_ne hj]; exact h1, h2⟩
theorem EnvR.none {ρ : Env} {σ : L2.St} (h : EnvR G H α ρ σ) (i : Nat) : EnvR G H α (ρ.set i none) (σ.set i none) := by
  refine ⟨by rw [List.length_set, List.length_set]; exact h.len, fun j w q => ?_⟩
  by_cases hj : i = j
  · subst hj
    by_cases hi : i < ρ.length
    · rw [List.getElem?_set_self hi] at q
      cases q
    · rw [List.getElem?_eq_none (by rw [List.length_set]; omega)] at q; cases q
  · rw [List.getElem?_set_ne hj] at q
    obtain ⟨y, h1, h2⟩ := h.at_ j w q
    exact ⟨y, by rw [List.getElem?_set_ne hj]; exact h1, h2⟩
theorem EnvR.wipe {ρ : Env} {σ : L2.St} (h : EnvR G H α ρ σ) : ∀ vs : List Nat, EnvR G H α (wipeP ρ vs) (L2.wipe σ vs)
  | [] => h
  | v :: vs => (EnvR.wipe h vs).none v
/-- a new object beside the cells -/
theorem MemR.upd {m : Mem} {p : Addr} {o : HO} (h : MemR G H α m) (hp : H p = none) : MemR G (L2.upd H p o) α m :=
  ⟨tabs_new h.tab hp, h.len, h.nd, fun k a l e1 e2 => by
    obtain ⟨xs, h1, h2, h3⟩ := h.at_ k a l e1 e2
    exact ⟨xs, by rw [upd_ne (ne_of_none h1 hp)]; exact h1, h2.ext (Ext.new hp) Le.refl, h3⟩⟩
theorem MemR.mem {m : Mem} (h : MemR G H α m) {a : Addr} (ha : a ∈ α) : ∃ xs, H a = some (.lst xs) := by
  obtain ⟨k, hk, e⟩ := List.mem_iff_getElem.mp ha
  have e1 : α[k]? = some a := by rw [List.getElem?_eq_getElem hk, e]
  have hk2 : k < m.length := by rw [← h.len]; exact hk
  obtain ⟨xs, h1, _⟩ := h.at_ k a m[k] e1 (List.getElem?_eq_getElem hk2)
  exact ⟨xs, h1⟩
/-- a new cell -/
theorem MemR.snoc {m : Mem} {p : Addr} {xs : List V} {l : List PV} (h : MemR G H α m) (hp : H p = none) (r : RpAll G H α xs l) (z : xs.length ≤ sizeLine) : MemR G (L2.upd H p (.lst xs)) (α ++ [p]) (m ++ [l]) := by
  refine ⟨tabs_new h.tab hp, by simp [h.len], ?_, fun k a l' e1 e2 => ?_⟩
  · rw [List.nodup_append]
    refine ⟨h.nd, by simp, fun a ha b hb => ?_⟩
    have e : b = p := by simpa using hb
    subst e
    obtain ⟨ys, q⟩ := h.mem ha
    exact ne_of_none q hp
  · have hE : Ext H (L2.upd H p (.lst xs)) := Ext.new hp
    by_cases hk : k < α.length
    · rw [List.getElem?_append_left hk] at e1
      rw [List.getElem?_append_left (by rw [← h.len]; exact hk)] at e2
      obtain ⟨ys, h1, h2, h3⟩ := h.at_ k a l' e1 e2
      exact ⟨ys, by rw [upd_ne (ne_of_none h1 hp)]; exact h1, h2.ext hE Le.snoc, h3⟩
    · have hk2 : k = α.length := by
        have := (List.getElem?_eq_some_iff.mp e1).1
        simp at this; omega
      subst hk2
      rw [List.getElem?_append_right (Nat.le_refl _)] at e1
      simp at e1
      subst e1
      rw [h.len, List.getElem?_append_right (Nat.le_refl _)] at e2
      simp at e2
      subst e2
      exact ⟨xs, upd_same, r.ext hE Le.snoc, z⟩
/-- a cell changed -/
theorem MemR.set {m : Mem} {k : Nat} {a : Addr} {xs ys : List V} {l : List PV} (h : MemR G H α m) (ha : α[k]? = some a) (hx : H a = some (.lst xs)) (r : RpAll G H α ys l) (z : ys.length ≤ sizeLine) : MemR G (L2.upd H a (.lst ys)) α (m.set k l) := by
  have hE : Ext H (L2.upd H a (.lst ys)) := Ext.set hx
  refine ⟨tabs_lst h.tab hx, by simp [h.len], h.nd, fun j b l' e1 e2 => ?_⟩
  have hk : k < m.length := by rw [← h.len]; exact (List.getElem?_eq_some_iff.mp ha).1
  by_cases hj : k = j
  · subst hj
    rw [ha] at e1; cases e1
    rw [List.getElem?_set_self hk] at e2; cases e2
    exact ⟨ys, upd_same, r.ext hE Le.refl, z⟩
  · rw [List.getElem?_set_ne hj] at e2
    obtain ⟨zs, h1, h2, h3⟩ := h.at_ j b l' e1 e2
    refine ⟨zs, ?_, h2.ext hE Le.refl, h3⟩
    rw [upd_ne]
    · exact h1
    · rintro rfl
      exact hj (nd_ix h.nd ha e1)
end
/-! ### what follows -/
abbrev EW := Value → Option Addr → Hp → Prop
def XnR (G : Glo) (x : Xn) (C : Value) (d : Option Addr) : Prop := ∃ a, G.ca[x.c]? = some a ∧ C = .ref a ∧ d = none
def Post {β γ : Type} (G : Glo) (rel : Hp → Al → β → γ → Prop) (r : R γ) (H : Hp) (α : Al) (Q : β → Hp → Prop) (E : EW) : Prop := match r with
  | .ok v m' => ∀ x H' α', Stp H α H' α' → rel H' α' x v → MemR G H' α' m' → Q x H'
  | .exc xn m' => ∀ C d H' α', Stp H α H' α' → MemR G H' α' m' → XnR G xn C d → E C d H'
  | .no => False
section
variable {G : Glo} {H H1 : Hp} {α α1 : Al} {β γ β' γ' : Type} {rel : Hp → Al → β → γ → Prop} {rel' : Hp → Al → β' → γ' → Prop} {E : EW}
theorem Post.base {r : R γ} {Q : β → Hp → Prop} (h : Post G rel r H α Q E) (e : Stp H α H1 α1) : Post G rel r H1 α1 Q E := by
  cases r with
  | ok v m => exact fun x H' α' e' => h x H' α' (e.trans e')
  | exc x m => exact fun C d H' α' e' => h C d H' α' (e.trans e')
  | no => exact h
theorem Post.bnd {r : R γ} {f : γ → Mem → R γ'} {Q : β' → Hp → Prop} {S : β → Hp → Prop} (h : Post G rel' (bnd r f) H α Q E)
    (k : ∀ v m' x H1 α1, Stp H α H1 α1 → rel H1 α1 x v → MemR G H1 α1 m' → Post G rel' (f v m') H1 α1 Q E → S x H1) : Post G rel r H α S E := by
  cases r with
  | ok v m => exact fun x H' α' e r me => k v m x H' α' e r me (Post.base (r := f v m) h e)
  | exc x m => exact h
  | no => exact h
theorem Post.mono {r : R γ} {Q Q' : β → Hp → Prop} (h : Post G rel r H α Q E) (k : ∀ x H', Q x H' → Q' x H') : Post G rel r H α Q' E := by
  cases r with
  | ok v m => exact fun x H' α' e r me => k x H' (h x H' α' e r me)
  | exc x m => exact h
  | no => exact h
theorem Post.ok {v : γ} {m : Mem} {Q : β → Hp → Prop} {x : β} (h : Post G rel (.ok v m) H α Q E) (r : rel H α x v) (me : MemR G H α m) : Q x H := h x H α Stp.refl r me
end
/-! ### the frame of a def's body -/
structure CG (G : Glo) (lb : Bool) (n : Nat) (N : List Str) (sc : Scope) (W : WX) (X : Cx) : Prop where
  prog : X.prog = G.P
  w : X.w = G.w
  K : X.K = G.K
  mg : X.mg = G.mg
  base : X.base = G.base
  nm : X.N = N
  nd : List.Nodup N
  kind : sc.kind = .function
  sc : X.env.scope = sc
  room : Room (3 * n + 5) X.A
  calm : X.calm = true
  tk : Takes X W
  hp : PassesOwn (model X.prog X.w) X.A X.env X.xe
  lam : lb = true → Room (3 * n + 7) X.A ∧ (G.hx ≠ [] → ∃ c P, X.env.code = .ref c ∧ LamX.TabB G.base G.mg c P ∧ (P, X.env.qual ++ "<lambda>") ∈ G.T ∧ ∀ p ∈ G.T, p.1 = P → p.2 = X.env.qual ++ "<lambda>")
/-- what the defs promise at a level -/
def spF (G : Glo) (n : Nat) (i np : Nat) : Sp := fun vs H Q E => vs.length = np ∧ ∃ α m l, RpAll G H α vs l ∧ MemR G H α m ∧ Post G (Rp G) (run G.pr n i l m) H α Q E
def FnsOk (G : Glo) (n : Nat) : Prop := ∀ (i : Nat) (a : Addr), G.fa[i]? = some a → ∃ F fd ps, G.pr.fns[i]? = some F ∧ ps.length = F.np ∧ FnOk G.P G.w G.K G.mg G.base (CX G.P G.w) (3 * n + 5) a fd ps (spF G n i F.np) ∧ Binds G.K fd ps [] ∧ PySem.W.keepIn G.K (.ref a) = true
abbrev wE (W : WX) (σ : L2.St) : EW := fun C d H => W C d σ H
section
variable (G : Glo) (n : Nat) (W : WX)
def tE (c : E) : TE := fun σ H Q => ∃ α ρ m, EnvR G H α ρ σ ∧ MemR G H α m ∧ Post G (Rp G) (evE G.pr.con (run G.pr n) c ρ m) H α Q (wE W σ)
def tT (c : E) : TT := fun σ H Q => ∃ α ρ m, EnvR G H α ρ σ ∧ MemR G H α m ∧ Post G (fun _ _ (b : Bool) (b' : Bool) => b = b') (bnd (evE G.pr.con (run G.pr n) c ρ m) fun v m => tstB m v) H α Q (wE W σ)
def tA (c : E) : TA := fun σ H Q => ∃ α ρ m, EnvR G H α ρ σ ∧ MemR G H α m ∧ Post G (fun H α xs r => RpAll G H α xs (unl r)) (evE G.pr.con (run G.pr n) c ρ m) H α Q (wE W σ)
end
theorem PE.weak {X : Cx} {e : Expr} {t t' : TE} (h : PE X e t) (k : ∀ σ H Q, t' σ H Q → t σ H Q) : PE X e t' := ⟨fun pins s σ H Q I q => h.run pins s σ H Q I (k _ _ _ q)⟩
theorem PT.weak {X : Cx} {e : Expr} {t t' : TT} (h : PT X e t) (k : ∀ σ H Q, t' σ H Q → t σ H Q) : PT X e t' := ⟨fun pins s σ H Q I q => h.run pins s σ H Q I (k _ _ _ q)⟩
theorem PA.weak {X : Cx} {e : List Expr} {t t' : TA} (h : PA X e t) (k : ∀ σ H Q, t' σ H Q → t σ H Q) : PA X e t' := ⟨fun pos pins s σ H Q I q => h.run pos pins s σ H Q I (k _ _ _ q)⟩
theorem PS.weak {X : Cx} {e : Stmt} {t t' : TS} (h : PS X e t) (k : ∀ D σ H, t' D σ H → t D σ H) : PS X e t' := ⟨fun pins s σ H D I q => h.run pins s σ H D I (k _ _ _ q)⟩
theorem PSs.weak {X : Cx} {e : List Stmt} {t t' : TS} (h : PSs X e t) (k : ∀ D σ H, t' D σ H → t D σ H) : PSs X e t' := ⟨fun pins s σ H D I q => h.run pins s σ H D I (k _ _ _ q)⟩
/-! ### a new list is locked, or stays a cell -/
def LK (Q : VK) : VK := fun x H' => Q x H' ∨ ∃ p xs, x = .ref p ∧ H' p = some (.lst xs) ∧ ∀ o, Q x (L2.upd H' p (.frz o (.lst xs)))
theorem EP.lk {X : Cx} {pins : List (Addr × Obj)} {σ : L2.St} {Q : VK} {u : Value} {s' : Shared} (h : EP X pins σ (LK Q) u s') : EP X pins σ Q u s' := by
  obtain ⟨v, H', I, r, q | ⟨p, xs, rfl, hp, q⟩⟩ := h
  · exact ⟨v, H', I, r, q⟩
  · obtain ⟨o, I2⟩ := I.lock hp trivial
    exact ⟨_, _, I2, r, q o⟩
theorem PE.lk {X : Cx} {e : Expr} {t : TE} (h : PE X e t) : PE X e (fun σ H Q => t σ H (LK Q)) :=
  ⟨fun pins s σ H Q I q => thn (h.run pins s σ H _ I q) fun _ _ hh => EP.lk hh⟩
section
variable {G : Glo} {H : Hp} {α : Al} {E : EW}
theorem Ext.lock {H : Hp} {p : Addr} {o : Obj} {xs : List V} (hp : H p = none) : Ext H (L2.upd (L2.upd H p (.lst xs)) p (.frz o (.lst xs))) := by
  rw [upd_upd]; exact Ext.new hp
/-- a list that stands at a place of its own -/
theorem LK.mk2 {mu : Bool} {l : List PV} {m : Mem} {Q : VK} {xs : List V} {p : Addr} (h : Post G (Rp G) (mkl mu l m) H α Q E) (hp : H p = some (.lst xs)) (hn : p ∉ α) (hb : ∃ H₀ α₀, H₀ p = none ∧ Stp H₀ α₀ H α ∧ Post G (Rp G) (mkl mu l m) H₀ α₀ Q E) (r : RpAll G H α xs l) (z : xs.length ≤ sizeLine) (me : MemR G H α m) : LK Q (.ref p) H := by
  obtain ⟨H₀, α₀, h0, st, h⟩ := hb
  cases mu with
  | true =>
    have h' : Post G (Rp G) (.ok (.cell m.length) (m ++ [l])) H₀ α₀ Q E := h
    refine .inl (h' (.ref p) _ (α ++ [p]) ⟨st.ext, st.le.trans Le.snoc, fun a ha => ?_, st.keep, st.there⟩ (.cell (by rw [← me.len]; simp)) ⟨me.tab, by simp [me.len], ?_, fun k a l' e1 e2 => ?_⟩)
    · rcases List.mem_append.mp ha with ha | ha
      · exact st.new a ha
      · have e : a = p := by simpa using ha
        rw [e]; exact .inr fun o e => by rw [h0] at e; cases e
    · rw [List.nodup_append]
      refine ⟨me.nd, by simp, fun a ha b hb' => ?_⟩
      have e : b = p := by simpa using hb'
      subst e
      rintro rfl
      exact hn ha
    · by_cases hk : k < α.length
      · rw [List.getElem?_append_left hk] at e1
        rw [List.getElem?_append_left (by rw [← me.len]; exact hk)] at e2
        obtain ⟨ys, h1, h2, h3⟩ := me.at_ k a l' e1 e2
        exact ⟨ys, h1, h2.ext Ext.refl Le.snoc, h3⟩
      · have hk2 : k = α.length := by
          have := (List.getElem?_eq_some_iff.mp e1).1
          simp at this; omega
        subst hk2
        rw [List.getElem?_append_right (Nat.le_refl _)] at e1
        simp at e1
        subst e1
        rw [me.len, List.getElem?_append_right (Nat.le_refl _)] at e2
        simp at e2
        subst e2
        exact ⟨xs, hp, r.ext Ext.refl Le.snoc, z⟩
  | false =>
    unfold mkl at h
    rw [if_neg (by decide)] at h
    by_cases hd : l.all PV.isD = true
    · rw [if_pos hd] at h
      refine .inr ⟨p, xs, rfl, hp, fun o => ?_⟩
      have hE : Ext H (L2.upd H p (.frz o (.lst xs))) := Ext.set hp
      refine h (.ref p) _ α ⟨st.ext.trans hE, st.le, st.new, fun a u e zt ha => ?_, fun a u e zt => by obtain ⟨o', e', z'⟩ := st.there a u e zt; exact upd_there rfl a o' e' z'⟩ (.d (.lst ⟨o, upd_same⟩ z ((r.fz hd).ext hE))) ⟨tabs_lst me.tab hp, me.len, me.nd, fun k a l' e1 e2 => ?_⟩
      · rw [upd_ne (ne_of_none e h0)]; exact st.keep a u e zt ha
      · obtain ⟨ys, h1, h2, h3⟩ := me.at_ k a l' e1 e2
        exact ⟨ys, by rw [upd_ne (fun z => hn (by rw [← z]; exact List.mem_of_getElem? e1))]; exact h1, h2.ext hE Le.refl, h3⟩
    · rw [if_neg hd] at h
      exact h.elim
/-- a list made anew -/
theorem LK.mk {mu : Bool} {l : List PV} {m : Mem} {Q : VK} {xs : List V} {p : Addr} (h : Post G (Rp G) (mkl mu l m) H α Q E) (hp : H p = none) (r : RpAll G H α xs l) (z : xs.length ≤ sizeLine) (me : MemR G H α m) : LK Q (.ref p) (L2.upd H p (.lst xs)) := by
  cases mu with
  | true =>
    have h' : Post G (Rp G) (.ok (.cell m.length) (m ++ [l])) H α Q E := h
    exact .inl (h' (.ref p) _ (α ++ [p]) (Stp.snoc hp) (.cell (by rw [← me.len]; simp)) (me.snoc hp r z))
  | false =>
    unfold mkl at h
    rw [if_neg (by decide)] at h
    by_cases hd : l.all PV.isD = true
    · rw [if_pos hd] at h
      refine .inr ⟨p, xs, rfl, upd_same, fun o => ?_⟩
      have hE : Ext H (L2.upd H p (.frz o (.lst xs))) := Ext.new hp
      rw [upd_upd]
      exact h (.ref p) _ α (Stp.laid hp) (.d (.lst ⟨o, upd_same⟩ z ((r.fz hd).ext hE))) (me.upd hp)
    · rw [if_neg hd] at h
      exact h.elim
end
end Pv
namespace Pv
open PySem PySem.Spec PyProof.Rows L2
/-! ### values as they are viewed -/
inductive Dv (K : PySem.W.Frag) (H : Hp) : V → PV → Prop
  | non : Dv K H .non .non
  | bl (b : Bool) : Dv K H (.bl b) (.bl b)
  | int (i : Int) : Dv K H (.int i) (.int i)
  | str (s : List Nat) (ok : PyData.strOk ⟨s.toArray⟩ = true) (sz : s.length ≤ sizeLine) : Dv K H (.str ⟨s.toArray⟩) (.str s)
  | tup {a : Addr} {xs : List V} {l : List PV} : SqT K H a xs → xs.length ≤ sizeLine → FzAll K H xs l → Dv K H (.ref a) (.tup l)
  | lst {a : Addr} {xs : List V} {l : List PV} : Rd H a (.lst xs) → xs.length ≤ sizeLine → FzAll K H xs l → Dv K H (.ref a) (.lst l)
section
variable {G : Glo} {K : PySem.W.Frag} {H : Hp} {α : Al} {m : Mem} {E : EW} {X : Cx} {pins : List (Addr × Obj)} {σ : L2.St} {s : Shared}
theorem Fz.dv {x : V} {v : PV} (h : Fz K H x v) : Dv K H x v := by
  cases h with
  | non => exact .non
  | bl b => exact .bl b
  | int i => exact .int i
  | str s a b => exact .str s a b
  | tup a b c => exact .tup a b c
  | lst a b c => exact .lst (.inr a) b c
theorem vw_d {v : PV} (h : v.isD = true) : vw m v = v := by
  cases v <;> first | rfl | cases h
theorem vw_dv {x : V} {v : PV} (r : Rp G H α x v) (me : MemR G H α m) (d : (vw m v).isD = true) : Dv G.K H x (vw m v) := by
  cases r with
  | d h => rw [vw_d h.isD]; exact h.dv
  | @cell k a h =>
    unfold vw at d ⊢
    cases e : m[k]? with
    | none => simp only [e] at d; cases d
    | some l =>
      simp only [e] at d ⊢
      by_cases hd : l.all PV.isD = true
      · rw [if_pos hd]
        obtain ⟨xs, h1, h2, h3⟩ := me.at_ k a l h e
        exact .lst (.inl h1) h3 (h2.fz hd)
      · rw [if_neg hd] at d; cases d
  | fn h => cases d
theorem Dv.dp {x : V} {v : PV} (h : Dv K H x v) : Dp K H x v.dat := by
  cases h with
  | non => rw [PV.dat]; exact .non
  | bl b => rw [PV.dat]; exact .bl b
  | int i => rw [PV.dat]; exact .int i
  | str s a b => rw [PV.dat]; exact .str _
  | tup a b c => rw [PV.dat]; exact .tup a c.dp
  | lst a b c => rw [PV.dat]; exact .lst (.inl a) c.dp
theorem Dv.lay {x : V} {v : PV} (h : Dv K H x v) : v.dat.canLay0 = true := by
  cases h with
  | non => simp [PV.dat, PyData.canLay0]
  | bl b => simp [PV.dat, PyData.canLay0]
  | int i => simp [PV.dat, PyData.canLay0]
  | str s a b => simp only [PV.dat, PyData.canLay0]; exact a
  | tup a b c => simp only [PV.dat, PyData.canLay0]; exact c.lay
  | lst a b c => simp only [PV.dat, PyData.canLay0]; exact c.lay
theorem Dv.eqv {x y : V} {v w : PV} (h : Dv K H x v) (h' : Dv K H y w) : PyData.eqv v.dat w.dat = v.eqv w := by
  cases h with
  | non => cases h' <;> simp [PV.dat, PyData.eqv, PV.eqv]
  | bl b => cases h' <;> simp [PV.dat, PyData.eqv, PV.eqv, b2]
  | int i => cases h' <;> simp [PV.dat, PyData.eqv, PV.eqv, b2]
  | str s a b =>
    cases h' with
    | str t _ _ => simp only [PV.dat, PyData.eqv, PV.eqv, str_beq']
    | _ => simp [PV.dat, PyData.eqv, PV.eqv]
  | tup a b c =>
    cases h' with
    | tup _ _ d => simp only [PV.dat, PyData.eqv, PV.eqv]; exact eqv_datAll c d
    | _ => simp [PV.dat, PyData.eqv, PV.eqv]
  | lst a b c =>
    cases h' with
    | lst _ _ d => simp only [PV.dat, PyData.eqv, PV.eqv]; exact eqv_datAll c d
    | _ => simp [PV.dat, PyData.eqv, PV.eqv]
theorem Dv.fzeqv {x y : V} {v w : PV} (h : Fz K H x v) (h' : Dv K H y w) : PyData.eqv v.dat w.dat = v.eqv w := h.dv.eqv h'
theorem any_eqv {y : V} {w : PV} (h' : Dv K H y w) : ∀ {xs : List V} {l : List PV}, FzAll K H xs l → ((datAll l).any fun z => PyData.eqv z w.dat) = anyEq w l
  | _, _, .nil => by simp [datAll, anyEq]
  | _, _, .cons a b => by
    have ih := any_eqv h' b
    unfold anyEq at ih ⊢
    rw [datAll, List.any_cons, List.any_cons, ih, a.dv.eqv h']
/-- the truth of a value -/
theorem truth_ok {x : V} {v : PV} {b : Bool} (r : Rp G H α x v) (me : MemR G H α m) (e : truth m v = some b) : TruV G.K x H b := by
  cases r with
  | d h =>
    cases h with
    | non => cases e; rfl
    | bl c => cases e; rfl
    | int i => cases e; rfl
    | str s ok sz =>
      cases e
      refine ⟨by simpa [Str.length] using sz, ?_⟩
      cases s with
      | nil => rfl
      | cons c s =>
        have h : (⟨(c :: s).toArray⟩ : Str).length = s.length + 1 := by simp [Str.length]
        rw [h]
        have h2 : (((s.length + 1 : Nat) : Int) != 0) = true := by rw [bne_iff_ne]; omega
        rw [h2]; rfl
    | @tup a xs l h1 h2 h3 =>
      cases e
      exact .inr (.inl ⟨xs, h1, by cases h3 <;> rfl⟩)
    | @lst a xs l h1 h2 h3 =>
      cases e
      exact .inl ⟨xs, h1.sq, by cases h3 <;> rfl⟩
  | @cell k a h =>
    have e' : (m[k]?.map fun l => !l.isEmpty) = some b := e
    cases q : m[k]? with
    | none => rw [q] at e'; cases e'
    | some l =>
      rw [q] at e'
      cases e'
      obtain ⟨xs, h1, h2, h3⟩ := me.at_ k a l h q
      exact .inl ⟨xs, SqL.of h1, by cases h2 <;> rfl⟩
  | fn h => cases e
/-! ### helpers for what follows -/
theorem Post.lftb {o : Option Bool} {Q : VK} (h : Post G (Rp G) (lft (o.map .bl) m) H α Q E) (me : MemR G H α m) : ∃ b, o = some b ∧ Q (.bl b) H := by
  cases o with
  | none => exact h.elim
  | some b => exact ⟨b, rfl, Post.ok (v := PV.bl b) (x := V.bl b) h (Rp.d (Fz.bl b)) me⟩
theorem Post.lftv {o : Option PV} {Q : VK} (h : Post G (Rp G) (lft o m) H α Q E) : ∃ v, o = some v ∧ Post G (Rp G) (.ok v m) H α Q E := by
  cases o with
  | none => exact h.elim
  | some b => exact ⟨b, rfl, h⟩
end
/-! ### comparisons -/
def rCm (G : Glo) (E : L2.St → EW) (σ : L2.St) (c : Cm) : R2 := fun x y H Q => ∃ α v w m, Rp G H α x v ∧ Rp G H α y w ∧ MemR G H α m ∧ Post G (Rp G) (lft ((cmpop c m v w).map .bl) m) H α Q (E σ)
def cmOp : Cm → CmpOp
  | .eq => .Eq
  | .ne => .NotEq
  | .lt => .Lt
  | .le => .LtE
  | .gt => .Gt
  | .ge => .GtE
  | .is_ => .Is
  | .isnot => .IsNot
  | .in_ => .In
  | .notin => .NotIn
section
variable {G : Glo} {X : Cx} {E : EW} {n : Nat} {pins : List (Addr × Obj)} {σ : L2.St} {H : Hp} {s : Shared} {α : Al} {m : Mem}
theorem eqM_some {v w : PV} {b : Bool} (h : eqM m v w = some b) : (vw m v).isD = true ∧ (vw m w).isD = true ∧ min (vw m v).dep (vw m w).dep ≤ maxD ∧ b = (vw m v).eqv (vw m w) := by
  unfold eqM at h
  by_cases hc : ((vw m v).isD && (vw m w).isD && decide (min (vw m v).dep (vw m w).dep ≤ maxD)) = true
  · rw [if_pos hc] at h
    simp only [Bool.and_eq_true, decide_eq_true_eq] at hc
    exact ⟨hc.1.1, hc.1.2, hc.2, (Option.some.inj h).symm⟩
  · rw [if_neg hc] at h; cases h
theorem room_eq {A : Around} {d e : PyData} {a b : PV} (hr : Room (n + 5) A) (h1 : d.depth = a.dep) (h2 : e.depth = b.dep) (h : min a.dep b.dep ≤ maxD) : A.units + min d.depth e.depth < cLine := by
  have := hr.un
  rw [h1, h2]
  unfold maxD at h
  omega
theorem room_in {A : Around} {d : List PyData} {e : PyData} {a : List PV} {b : PV} (hr : Room (n + 5) A) (h1 : PyData.depthAll d = depAll a) (h2 : e.depth = b.dep) (h : min (depAll a) b.dep ≤ maxD) : A.units + 1 + min (PyData.depthAll d) e.depth < cLine := by
  have := hr.un
  rw [h1, h2]
  unfold maxD at h
  omega
/-- two values that are compared -/
abbrev Cmp (G : Glo) (X : Cx) (op : CmpOp) (f : Mem → PV → PV → Option Bool) : Prop :=
  ∀ (pins : List (Addr × Obj)) (s : Shared) (σ : L2.St) (H : Hp) (x y : V) (v u : Value) (α : Al) (a b : PV) (m : Mem) (c : Bool) (Q : VK), L2.Inv X pins σ H s → RelV x v → RelV y u → Rp G H α x a → Rp G H α y b → MemR G H α m → f m a b = some c → Q (.bl c) H →
    wpAny (model X.prog X.w) X.A (compareOp op v u) (EP X pins σ Q) X.xe s
theorem cmp_eq (hr : Room (n + 5) X.A) (hK : X.K = G.K) : Cmp G X .Eq eqM := by
  intro pins s σ H x y v u α a b m c Q I rx ry ra rb me e q
  obtain ⟨h1, h2, h3, rfl⟩ := eqM_some e
  have d1 := vw_dv ra me h1
  have d2 := vw_dv rb me h2
  rw [← hK] at d1 d2
  obtain ⟨as, r1⟩ := Dp.reads I _ x v d1.dp rx
  obtain ⟨bs, r2⟩ := Dp.reads I _ y u d2.dp ry
  exact SeqAt.compareEq_reads r1 r2 d1.lay d2.lay (room_eq hr (dat_dep _) (dat_dep _) h3) ⟨.bl _, H, I, rfl, by rw [d1.eqv d2]; exact q⟩
theorem cmp_ne (hr : Room (n + 5) X.A) (hK : X.K = G.K) : Cmp G X .NotEq (fun m x y => (eqM m x y).map (!·)) := by
  intro pins s σ H x y v u α a b m c Q I rx ry ra rb me e q
  obtain ⟨c', e1, e2⟩ := Option.map_eq_some_iff.mp e
  obtain ⟨h1, h2, h3, rfl⟩ := eqM_some e1
  subst e2
  have d1 := vw_dv ra me h1
  have d2 := vw_dv rb me h2
  rw [← hK] at d1 d2
  obtain ⟨as, r1⟩ := Dp.reads I _ x v d1.dp rx
  obtain ⟨bs, r2⟩ := Dp.reads I _ y u d2.dp ry
  exact SeqAt.compareNe_reads r1 r2 d1.lay d2.lay (room_eq hr (dat_dep _) (dat_dep _) h3) ⟨.bl _, H, I, rfl, by rw [d1.eqv d2]; exact q⟩
theorem isIn_some {v w : PV} {b : Bool} (h : isIn m v w = some b) : ∃ l, (vw m w = .tup l ∨ vw m w = .lst l) ∧ (vw m v).isD = true ∧ min (depAll l) (vw m v).dep ≤ maxD ∧ b = anyEq (vw m v) l := by
  unfold isIn at h
  split at h
  · rename_i l hl
    by_cases hc : ((vw m v).isD && decide (min (depAll l) (vw m v).dep ≤ maxD)) = true
    · rw [if_pos hc] at h
      simp only [Bool.and_eq_true, decide_eq_true_eq] at hc
      exact ⟨l, .inl hl, hc.1, hc.2, (Option.some.inj h).symm⟩
    · rw [if_neg hc] at h; cases h
  · rename_i l hl
    by_cases hc : ((vw m v).isD && decide (min (depAll l) (vw m v).dep ≤ maxD)) = true
    · rw [if_pos hc] at h
      simp only [Bool.and_eq_true, decide_eq_true_eq] at hc
      exact ⟨l, .inr hl, hc.1, hc.2, (Option.some.inj h).symm⟩
    · rw [if_neg hc] at h; cases h
  · cases h
theorem cmp_in (hr : Room (n + 5) X.A) (hK : X.K = G.K) : Cmp G X .In isIn := by
  intro pins s σ H x y v u α a b m c Q I rx ry ra rb me e q
  obtain ⟨l, hl, h1, h3, rfl⟩ := isIn_some e
  have d1 := vw_dv ra me h1
  rcases hl with hl | hl
  · have d2 := vw_dv rb me (by rw [hl]; rfl)
    rw [hl] at d2
    rw [← hK] at d1 d2
    obtain ⟨as, r1⟩ := Dp.reads I _ x v d1.dp rx
    obtain ⟨bs, r2⟩ := Dp.reads I _ y u d2.dp ry
    cases d2 with
    | tup z1 z2 z3 =>
      rw [PV.dat] at r2
      exact SeqAt.in_tuple_reads r2 r1 z3.lay d1.lay (room_in hr (dat_depAll _) (dat_dep _) h3) ⟨.bl _, H, I, rfl, by rw [any_eqv d1 z3]; exact q⟩
  · have d2 := vw_dv rb me (by rw [hl]; rfl)
    rw [hl] at d2
    rw [← hK] at d1 d2
    obtain ⟨as, r1⟩ := Dp.reads I _ x v d1.dp rx
    obtain ⟨bs, r2⟩ := Dp.reads I _ y u d2.dp ry
    cases d2 with
    | lst z1 z2 z3 =>
      rw [PV.dat] at r2
      exact SeqAt.in_list_reads r2 r1 z3.lay d1.lay (room_in hr (dat_depAll _) (dat_dep _) h3) ⟨.bl _, H, I, rfl, by rw [any_eqv d1 z3]; exact q⟩
theorem cmp_notin (hr : Room (n + 5) X.A) (hK : X.K = G.K) : Cmp G X .NotIn (fun m x y => (isIn m x y).map (!·)) := by
  intro pins s σ H x y v u α a b m c Q I rx ry ra rb me e q
  obtain ⟨c', e1, e2⟩ := Option.map_eq_some_iff.mp e
  obtain ⟨l, hl, h1, h3, rfl⟩ := isIn_some e1
  subst e2
  have d1 := vw_dv ra me h1
  rcases hl with hl | hl
  · have d2 := vw_dv rb me (by rw [hl]; rfl)
    rw [hl] at d2
    rw [← hK] at d1 d2
    obtain ⟨as, r1⟩ := Dp.reads I _ x v d1.dp rx
    obtain ⟨bs, r2⟩ := Dp.reads I _ y u d2.dp ry
    cases d2 with
    | tup z1 z2 z3 =>
      rw [PV.dat] at r2
      exact SeqAt.notIn_tuple_reads r2 r1 z3.lay d1.lay (room_in hr (dat_depAll _) (dat_dep _) h3) ⟨.bl _, H, I, rfl, by rw [any_eqv d1 z3]; exact q⟩
  · have d2 := vw_dv rb me (by rw [hl]; rfl)
    rw [hl] at d2
    rw [← hK] at d1 d2
    obtain ⟨as, r1⟩ := Dp.reads I _ x v d1.dp rx
    obtain ⟨bs, r2⟩ := Dp.reads I _ y u d2.dp ry
    cases d2 with
    | lst z1 z2 z3 =>
      rw [PV.dat] at r2
      exact SeqAt.notIn_list_reads r2 r1 z3.lay d1.lay (room_in hr (dat_depAll _) (dat_dep _) h3) ⟨.bl _, H, I, rfl, by rw [any_eqv d1 z3]; exact q⟩
theorem ints_fz {K : PySem.W.Frag} : ∀ {xs : List V} {l : List PV} {is : List Int}, FzAll K H xs l → intsOf l = some is → xs = is.map V.int
  | _, _, _, .nil, e => by cases e; rfl
  | _, _, _, .cons a b, e => by
    cases a with
    | int i =>
      simp only [intsOf] at e
      obtain ⟨is, e1, e2⟩ := Option.map_eq_some_iff.mp e
      subst e2
      rw [ints_fz b e1]; rfl
    | _ => simp [intsOf] at e
theorem lexI_eq : ∀ (a b : List Int), lexI a b = HT.lexLt a b
  | [], [] => rfl
  | [], _ :: _ => rfl
  | _ :: _, [] => rfl
  | x :: a, y :: b => by unfold lexI HT.lexLt; rw [lexI_eq a b]
theorem cmp_lt (hr : Room (n + 5) X.A) (hK : X.K = G.K) : Cmp G X .Lt (fun m x y => (vw m x).lt (vw m y)) := by
  intro pins s σ H x y v u α a b m c Q I rx ry ra rb me e q
  have e : (vw m a).lt (vw m b) = some c := e
  have hd : (vw m a).isD = true ∧ (vw m b).isD = true := by
    unfold PV.lt at e
    split at e
    · rename_i h1 h2; rw [h1, h2]; exact ⟨rfl, rfl⟩
    · rename_i h1 h2; rw [h1, h2]; exact ⟨rfl, rfl⟩
    · cases e
  have d1 := vw_dv ra me hd.1
  have d2 := vw_dv rb me hd.2
  revert d1 d2 e
  generalize vw m a = a'
  generalize vw m b = b'
  intro e d1 d2
  unfold PV.lt at e
  split at e
  · cases d1; cases d2
    cases e
    exact op_lt pins s σ H _ _ v u Q I rx ry ⟨_, _, rfl, rfl, q⟩
  · rename_i la lb
    cases ea : intsOf la with
    | none => simp only [ea] at e; cases e
    | some ia =>
      cases eb : intsOf lb with
      | none => simp only [ea, eb] at e; cases e
      | some ib =>
        simp only [ea, eb] at e
        cases e
        cases d1 with
        | tup z1 z2 z3 =>
          cases d2 with
          | tup y1 y2 y3 =>
            rw [← hK] at z1 y1
            have h1 := ints_fz z3 ea
            have h2 := ints_fz y3 eb
            subst h1 h2
            refine op_ltT (by have := hr.un; omega) pins s σ H _ _ v u Q I rx ry ⟨_, _, _, _, rfl, rfl, z1, y1, ?_⟩
            rw [← lexI_eq]; exact q
  · cases e
theorem fz_int {x : V} {i : Int} (h : Rp G H α x (.int i)) : x = .int i := by
  cases h with
  | d h => cases h; rfl
theorem fz_bl {x : V} {i : Bool} (h : Rp G H α x (.bl i)) : x = .bl i := by
  cases h with
  | d h => cases h; rfl
theorem fz_non {x : V} (h : Rp G H α x .non) : x = .non := by
  cases h with
  | d h => cases h; rfl
theorem cmp_gt : Cmp G X .Gt (fun m x y => cmpop .gt m x y) := by
  intro pins s σ H x y v u α a b m c Q I rx ry ra rb me e q
  unfold cmpop at e
  dsimp only at e
  split at e
  · have h1 := fz_int ra
    have h2 := fz_int rb
    subst h1 h2
    cases e
    exact op_gt pins s σ H _ _ v u Q I rx ry ⟨_, _, rfl, rfl, q⟩
  · cases e
theorem cmp_le : Cmp G X .LtE (fun m x y => cmpop .le m x y) := by
  intro pins s σ H x y v u α a b m c Q I rx ry ra rb me e q
  unfold cmpop at e
  dsimp only at e
  split at e
  · have h1 := fz_int ra
    have h2 := fz_int rb
    subst h1 h2
    cases e
    exact op_le pins s σ H _ _ v u Q I rx ry ⟨_, _, rfl, rfl, q⟩
  · cases e
theorem cmp_ge : Cmp G X .GtE (fun m x y => cmpop .ge m x y) := by
  intro pins s σ H x y v u α a b m c Q I rx ry ra rb me e q
  unfold cmpop at e
  dsimp only at e
  split at e
  · have h1 := fz_int ra
    have h2 := fz_int rb
    subst h1 h2
    cases e
    exact op_ge pins s σ H _ _ v u Q I rx ry ⟨_, _, rfl, rfl, q⟩
  · cases e
theorem Rp.nonOr {x : V} {v : PV} (h : Rp G H α x v) (hv : v ≠ .non) : x ≠ .non := by
  intro z
  subst z
  cases h with
  | d h => cases h; exact hv rfl
theorem cmp_is : Cmp G X .Is (fun _ x y => isSame x y) := by
  intro pins s σ H x y v u α a b m c Q I rx ry ra rb me e q
  replace e : isSame a b = some c := e
  unfold isSame at e
  split at e
  · have h1 := fz_bl ra
    have h2 := fz_bl rb
    subst h1 h2
    cases e
    refine op_is_bl pins s σ H _ _ v u Q I rx ry ⟨_, _, rfl, rfl, ?_⟩
    rw [← Bool.beq_eq_decide_eq]; exact q
  · have h1 := fz_non ra
    have h2 := fz_non rb
    subst h1 h2
    cases e
    exact op_isN pins s σ H _ _ v u Q I rx ry ⟨rfl, q⟩
  · rename_i hne
    have h2 := fz_non rb
    subst h2
    cases e
    refine op_isN pins s σ H _ _ v u Q I rx ry ⟨rfl, ?_⟩
    rw [decide_eq_false (ra.nonOr hne)]; exact q
  · cases e
theorem cmp_isnot : Cmp G X .IsNot (fun _ x y => (isSame x y).map (!·)) := by
  intro pins s σ H x y v u α a b m c Q I rx ry ra rb me e q
  obtain ⟨c', e1, e2⟩ := Option.map_eq_some_iff.mp e
  subst e2
  unfold isSame at e1
  split at e1
  · have h1 := fz_bl ra
    have h2 := fz_bl rb
    subst h1 h2
    cases e1
    refine op_isnot_bl pins s σ H _ _ v u Q I rx ry ⟨_, _, rfl, rfl, ?_⟩
    rw [← Bool.beq_eq_decide_eq]; exact q
  · have h1 := fz_non ra
    have h2 := fz_non rb
    subst h1 h2
    cases e1
    exact op_notN pins s σ H _ _ v u Q I rx ry ⟨rfl, q⟩
  · rename_i hne
    have h2 := fz_non rb
    subst h2
    cases e1
    refine op_notN pins s σ H _ _ v u Q I rx ry ⟨rfl, ?_⟩
    rw [decide_eq_false (ra.nonOr hne)]; exact q
  · cases e1
theorem cmp_all (hr : Room (n + 5) X.A) (hK : X.K = G.K) : ∀ c : Cm, Cmp G X (cmOp c) (cmpop c)
  | .eq => cmp_eq hr hK
  | .ne => cmp_ne hr hK
  | .lt => cmp_lt hr hK
  | .le => cmp_le
  | .gt => cmp_gt
  | .ge => cmp_ge
  | .is_ => cmp_is
  | .isnot => cmp_isnot
  | .in_ => cmp_in hr hK
  | .notin => cmp_notin hr hK
end
end Pv
namespace Pv
open PySem PySem.Spec PyProof.Rows L2
/-! ### operators -/
def opOp : Op → Operator
  | .add => .Add
  | .sub => .Sub
  | .mul => .Mult
  | .fdiv => .FloorDiv
  | .mod => .Mod
  | .pow => .Pow
  | .band => .BitAnd
  | .bor => .BitOr
  | .bxor => .BitXor
  | .shr => .RShift
theorem bitAnd_eq {i j k : Int} (h : bitAnd i j = some k) : Builtin.bitAnd i j = k := by
  unfold bitAnd at h
  split at h
  · cases h
    unfold Builtin.bitAnd
    rw [show decide (0 ≤ Int.ofNat _) = true from decide_eq_true (Int.natCast_nonneg _), show decide (0 ≤ Int.ofNat _) = true from decide_eq_true (Int.natCast_nonneg _)]
    rfl
  · cases h
theorem bitNot_neg (x : Nat) : decide (0 ≤ Builtin.bitNot (Int.ofNat x)) = false := by
  apply decide_eq_false
  simp only [Builtin.bitNot, Int.ofNat_eq_natCast]
  omega
theorem bitNot_not (x : Int) : Builtin.bitNot (Builtin.bitNot x) = x := by
  simp only [Builtin.bitNot]
  omega
theorem bitOr_eq {i j k : Int} (h : bitOr i j = some k) : Builtin.bitOr i j = k := by
  unfold bitOr at h
  split at h
  · rename_i x y
    cases h
    unfold Builtin.bitOr
    have e : Builtin.bitAnd (Builtin.bitNot (Int.ofNat x)) (Builtin.bitNot (Int.ofNat y)) = Builtin.bitNot (((Int.ofNat x).toNat ||| (Int.ofNat y).toNat : Nat) : Int) := by
      unfold Builtin.bitAnd
      rw [bitNot_neg, bitNot_neg, bitNot_not, bitNot_not]
    rw [e, bitNot_not]
    rfl
  · cases h
theorem bitXor_eq {i j k : Int} (h : bitXor i j = some k) : Builtin.bitXor i j = k := by
  unfold bitXor at h
  split at h
  · rename_i x y
    cases h
    unfold Builtin.bitXor
    rw [bitOr_eq (i := .ofNat x) (j := .ofNat y) rfl, bitAnd_eq (i := .ofNat x) (j := .ofNat y) rfl]
  · cases h
theorem rep_length {α : Type} (l : List α) : ∀ n : Nat, (rep l n).length = l.length * n
  | 0 => by simp [rep]
  | n + 1 => by rw [rep, List.length_append, rep_length l n, Nat.mul_succ, Nat.add_comm]
theorem strOk_app {a b : List Nat} (h1 : PyData.strOk ⟨a.toArray⟩ = true) (h2 : PyData.strOk ⟨b.toArray⟩ = true) : PyData.strOk ⟨(a ++ b).toArray⟩ = true := by
  simp only [PyData.strOk, List.size_toArray, List.all_toArray', List.all_append, Bool.and_eq_true] at *
  exact ⟨h1, h2⟩
theorem strOk_sub {a b : List Nat} (h1 : PyData.strOk ⟨a.toArray⟩ = true) (h : ∀ x ∈ b, x ∈ a) : PyData.strOk ⟨b.toArray⟩ = true := by
  simp only [PyData.strOk, List.size_toArray, List.all_toArray', List.all_eq_true] at *
  exact fun x hx => h1 x (h x hx)
section
variable {G : Glo} {X : Cx} {n : Nat} {pins : List (Addr × Obj)} {σ : L2.St} {H : Hp} {s : Shared} {α : Al} {m : Mem}
/-- what a list that is read looks like -/
theorem Inv.rdL {l : Addr} {xs : List V} (I : L2.Inv X pins σ H s) (h : Rd H l (.lst xs)) : xs.length ≤ sizeLine ∧ ∃ (its : List Value) (n : Nat), Vals xs its ∧ xs.length = its.length ∧ s.heap.get? l = some { cls := .type "list", data := .seq its.toArray n } := by
  rcases h with h | ⟨o, h⟩
  · exact I.lstM h
  · obtain ⟨e, z, its, k, r, e2⟩ := (show ObjOk X.prog X.w H s.heap l (.frz o (.lst xs)) from I.hok l _ h)
    exact ⟨z, its, k, r, r.length, e2⟩
def rCatF : R2 := fun x y H Q => ∃ l b xs zs, x = .ref l ∧ y = .ref b ∧ Rd H l (.lst xs) ∧ Rd H b (.lst zs) ∧ xs.length + zs.length ≤ sizeLine ∧ ∀ p, H p = none → Q (.ref p) (L2.upd H p (.lst (xs ++ zs)))
theorem op_catF : OpR X (binaryOp .Add) rCatF := by
  rintro pins s0 σ Ho xv yv uv wv Q Io rx ry ⟨pa, pb, xa, xb, rfl, rfl, hA, hB, hsz, hQ⟩
  cases rx; cases ry
  obtain ⟨za, ia, na, ra, la, ea⟩ := Inv.rdL Io hA
  obtain ⟨zb, ib, nb, rb, lb, eb⟩ := Inv.rdL Io hB
  have hcap : ia.toArray.size + ib.toArray.size ≤ sizeLine := by simp only [List.size_toArray]; omega
  refine PySem.P.add_list ea eb ?_ hcap
  rw [show ia.toArray ++ ib.toArray = (ia ++ ib).toArray from by simp]
  have hnl : (xa ++ xb).length ≤ sizeLine := by rw [List.length_append]; exact hsz
  exact ⟨.ref _, _, Io.lnew (t' := s0.toks) (ra.append rb) hnl, rfl, hQ _ Io.fresh⟩
def rRepF : R2 := fun x y H Q => ∃ l k xs, x = .ref l ∧ y = .int k ∧ Rd H l (.lst xs) ∧ -(2 ^ 63) ≤ k ∧ k < 2 ^ 63 ∧ xs.length * k.toNat ≤ sizeLine ∧
  ∀ p, H p = none → Q (.ref p) (L2.upd H p (.lst (List.replicate k.toNat xs).flatten))
theorem rep_arrays (ia : List Value) (c : Nat) : List.foldl (fun p q => p ++ q) #[] (List.replicate (if ia.toArray.isEmpty = true then 0 else c) ia.toArray) = (List.replicate c ia).flatten.toArray := by
  have step : ∀ j : Nat, List.foldl (fun p q => p ++ q) #[] (List.replicate j ia.toArray) = (List.replicate j ia).flatten.toArray := fun j => by
    simpa using foldl_rep ia j []
  rw [step]
  cases ia with
  | nil => simp
  | cons hd tl => simp
theorem op_repF : OpR X (binaryOp .Mult) rRepF := by
  rintro pins s0 σ Ho xv yv uv wv Q Io rx ry ⟨pa, c, xa, rfl, rfl, hA, c1, c2, hsz, hQ⟩
  cases rx
  obtain ⟨tk, rfl⟩ := ry
  obtain ⟨za, ia, na, ra, la, ea⟩ := Inv.rdL Io hA
  have szA : ia.toArray.size * c.toNat ≤ sizeLine := by simpa [← la] using hsz
  have lineN : (sizeLine : Nat) ≤ (2 ^ 63 - 1) / 8 := by decide
  have notOver : ¬ ia.toArray.size * c.toNat > (2 ^ 63 - 1) / 8 := fun z => absurd (Nat.le_trans szA lineN) (Nat.not_le_of_gt z)
  have fitsIx : ¬ (!Builtin.List.listFitsIndex c) = true := by simp [fitsIndex_both c1 c2]
  have notTooLong : ¬ Builtin.List.listTooLong (ia.toArray.size * c.toNat) = true := fun z => by rw [notLongL szA] at z; cases z
  have tyL : s0.TypeIs (.ref pa) "list" := ⟨_, ea, rfl⟩
  have inner := AutoListH.list___mul___list_int_3 pa ia.toArray na c tk fitsIx notOver notTooLong
  have outer := int___rmul___int_list c tk pa ia.toArray na
  refine wpAny_binaryOp_repeat_ref (T := "list") (U := "int") (by decide) tyL (fun sx => typeIs_int sx c tk)
    noFill_list_mul F.fills_int_mul F.slot_int_rmul repeat_list F.slot_int_index.lookup ?_
  refine call_meets F.slot_int_rmul (typeIs_int s0 c tk) F.entry_int_rmul (F.args_int_rmul_2 _ _) outer ?_
  refine ⟨ea, rfl, tyL, call_meets F.slot_list_mul tyL F.entry_list_mul (F.args_list_mul_2 _ _) inner ⟨ea, ?_⟩⟩
  rw [rep_arrays]
  have hnl : (List.replicate c.toNat xa).flatten.length ≤ sizeLine := by
    rw [PyProof.Rows.lm_len_rep_flat, Nat.mul_comm]
    exact hsz
  exact ⟨.ref _, _, Io.lnew (t' := s0.toks) (ra.rep c.toNat) hnl, rfl, hQ _ Io.fresh⟩
theorem thnLK {u : Sem Value} {Q : VK} (h : wpAny (model X.prog X.w) X.A u (EP X pins σ (LK Q)) X.xe s) : wpAny (model X.prog X.w) X.A u (EP X pins σ Q) X.xe s := thn h fun _ _ hh => EP.lk hh
theorem inL_ok {i : Int} (h : inL i = true) : -(2 ^ 64) < i ∧ i < 2 ^ 64 := by
  simpa [inL] using h
theorem big_eq : big = sizeLine := by rw [sizeLine_eq]; rfl
theorem bin_all (hK : X.K = G.K) (o : Op) {mu : Bool} {x y : V} {v u : Value} {a b : PV} {Q : VK} {E : EW} (I : L2.Inv X pins σ H s) (rx : L2.RelV x v) (ry : L2.RelV y u) (ra : Rp G H α x a) (rb : Rp G H α y b) (me : MemR G H α m)
    (q : Post G (Rp G) (binop mu o a b m) H α Q E) : wpAny (model X.prog X.w) X.A (binaryOp (opOp o) v u) (EP X pins σ Q) X.xe s := by
  unfold binop at q
  split at q
  · -- ints
    rename_i i j h1 h2
    have d1 := vw_dv ra me (by rw [h1]; rfl)
    have d2 := vw_dv rb me (by rw [h2]; rfl)
    rw [h1] at d1
    rw [h2] at d2
    cases d1
    cases d2
    obtain ⟨w, e, q⟩ := Post.lftv q
    obtain ⟨k, e1, rfl⟩ := Option.map_eq_some_iff.mp e
    have qq : Q (.int k) H := Post.ok (x := V.int k) q (Rp.d (Fz.int k)) me
    cases o with
    | add => cases e1; exact op_add pins s σ H _ _ v u Q I rx ry ⟨_, _, rfl, rfl, qq⟩
    | sub => cases e1; exact op_sub pins s σ H _ _ v u Q I rx ry ⟨_, _, rfl, rfl, qq⟩
    | mul =>
      unfold arith at e1
      dsimp only at e1
      by_cases hc : (inL i || inL j) = true
      · rw [if_pos hc] at e1
        cases e1
        refine op_mul pins s σ H _ _ v u Q I rx ry ⟨_, _, rfl, rfl, ?_, qq⟩
        rw [Bool.or_eq_true] at hc
        exact hc.imp inL_ok inL_ok
      · rw [if_neg hc] at e1; cases e1
    | fdiv =>
      unfold arith at e1
      dsimp only at e1
      by_cases hc : 0 < j ∧ j < 1073741824
      · rw [if_pos hc] at e1
        cases e1
        exact op_fdiv pins s σ H _ _ v u Q I rx ry ⟨_, _, rfl, rfl, hc, qq⟩
      · rw [if_neg hc] at e1; cases e1
    | mod =>
      unfold arith at e1
      dsimp only at e1
      by_cases hc : 0 < j
      · rw [if_pos hc] at e1
        cases e1
        exact op_mod pins s σ H _ _ v u Q I rx ry ⟨_, _, rfl, rfl, hc, qq⟩
      · rw [if_neg hc] at e1; cases e1
    | pow =>
      unfold arith at e1
      dsimp only at e1
      by_cases hc : 0 ≤ j ∧ j ≤ 1000 ∧ i.natAbs < 2 ^ 64
      · rw [if_pos hc] at e1
        cases e1
        exact op_pow pins s σ H _ _ v u Q I rx ry ⟨_, _, rfl, rfl, ⟨hc.1, by omega, hc.2.2⟩, qq⟩
      · rw [if_neg hc] at e1; cases e1
    | band => exact op_and pins s σ H _ _ v u Q I rx ry ⟨_, _, rfl, rfl, by show Q (.int (Builtin.bitAnd i j)) H; rw [bitAnd_eq e1]; exact qq⟩
    | bor => exact op_or pins s σ H _ _ v u Q I rx ry ⟨_, _, rfl, rfl, by show Q (.int (Builtin.bitOr i j)) H; rw [bitOr_eq e1]; exact qq⟩
    | bxor => exact op_xor pins s σ H _ _ v u Q I rx ry ⟨_, _, rfl, rfl, by show Q (.int (Builtin.bitXor i j)) H; rw [bitXor_eq e1]; exact qq⟩
    | shr =>
      unfold arith at e1
      dsimp only at e1
      by_cases hc : 0 ≤ j
      · rw [if_pos hc] at e1
        cases e1
        exact op_shr pins s σ H _ _ v u Q I rx ry ⟨_, _, rfl, rfl, hc, qq⟩
      · rw [if_neg hc] at e1; cases e1
  · -- tuples
    rename_i la lb h1 h2
    have d1 := vw_dv ra me (by rw [h1]; rfl)
    have d2 := vw_dv rb me (by rw [h2]; rfl)
    rw [h1] at d1
    rw [h2] at d2
    cases o <;> first | exact q.elim | skip
    dsimp only at q
    by_cases hz : la.length + lb.length ≤ big
    · rw [if_pos hz] at q
      cases d1 with
      | @tup pa xs _ z1 z2 z3 =>
        cases d2 with
        | @tup pb ys _ y1 y2 y3 =>
          have l1 := z3.length
          have l2 := y3.length
          rw [← hK] at z1 y1
          rw [big_eq] at hz
          refine op_catA pins s σ H _ _ v u Q I rx ry ⟨pa, pb, xs, ys, rfl, rfl, z1, y1, by omega, fun hx => ?_, fun _ hy => ?_, fun _ _ p hp => ?_⟩
          · subst hx
            cases z3
            rw [hK] at y1
            exact Post.ok (v := PV.tup _) q (Rp.d (Fz.tup y1 y2 y3)) me
          · subst hy
            cases y3
            rw [hK] at z1
            rw [List.append_nil] at q
            exact Post.ok (v := PV.tup _) q (Rp.d (Fz.tup z1 z2 z3)) me
          · exact q (.ref p) _ α (Stp.laid hp) (.d (.tup (SqT.of upd_same) (by rw [List.length_append]; omega) ((FzAll.append z3 y3).ext (Ext.new hp)))) (me.upd hp)
    · rw [if_neg hz] at q; exact q.elim
  · -- lists
    rename_i la lb h1 h2
    have d1 := vw_dv ra me (by rw [h1]; rfl)
    have d2 := vw_dv rb me (by rw [h2]; rfl)
    rw [h1] at d1
    rw [h2] at d2
    cases o <;> first | exact q.elim | skip
    dsimp only at q
    by_cases hz : la.length + lb.length ≤ big
    · rw [if_pos hz] at q
      cases d1 with
      | @lst pa xs _ z1 z2 z3 =>
        cases d2 with
        | @lst pb ys _ y1 y2 y3 =>
          have l1 := z3.length
          have l2 := y3.length
          rw [big_eq] at hz
          exact thnLK (op_catF pins s σ H _ _ v u _ I rx ry ⟨pa, pb, xs, ys, rfl, rfl, z1, y1, by omega, fun p hp => LK.mk q hp (FzAll.append z3 y3).rp (by rw [List.length_append]; omega) me⟩)
    · rw [if_neg hz] at q; exact q.elim
  · -- texts
    rename_i la lb h1 h2
    have d1 := vw_dv ra me (by rw [h1]; rfl)
    have d2 := vw_dv rb me (by rw [h2]; rfl)
    rw [h1] at d1
    rw [h2] at d2
    cases o <;> first | exact q.elim | skip
    dsimp only at q
    by_cases hz : la.length + lb.length ≤ big
    · rw [if_pos hz] at q
      rw [big_eq] at hz
      cases d1 with
      | str _ o1 z1 =>
        cases d2 with
        | str _ o2 z2 =>
          have e : (⟨la.toArray⟩ : Str) ++ (⟨lb.toArray⟩ : Str) = ⟨(la ++ lb).toArray⟩ := by
            show (⟨la.toArray ++ lb.toArray⟩ : Str) = _
            rw [List.append_toArray]
          refine op_add_str pins s σ H _ _ v u Q I rx ry ⟨_, _, rfl, rfl, by simpa [Str.length] using hz, ?_⟩
          rw [e]
          exact Post.ok (v := PV.str _) q (Rp.d (Fz.str _ (strOk_app o1 o2) (by rw [List.length_append]; exact hz))) me
    · rw [if_neg hz] at q; exact q.elim
  · -- a list some times
    rename_i la j h1 h2
    have d1 := vw_dv ra me (by rw [h1]; rfl)
    have d2 := vw_dv rb me (by rw [h2]; rfl)
    rw [h1] at d1
    rw [h2] at d2
    cases o <;> first | exact q.elim | skip
    dsimp only at q
    by_cases hz : la.length * j.toNat ≤ big ∧ j ≤ 1000000 ∧ -1000000 ≤ j
    · rw [if_pos hz] at q
      obtain ⟨hz, hj, hj2⟩ := hz
      rw [big_eq] at hz
      cases d1 with
      | @lst pa xs _ z1 z2 z3 =>
        cases d2
        have l1 := z3.length
        exact thnLK (op_repF pins s σ H _ _ v u _ I rx ry ⟨pa, j, xs, rfl, rfl, z1, by omega, by omega, by rw [l1]; exact hz, fun p hp => LK.mk q hp (FzAll.rep z3 _).rp (by
          rw [(FzAll.rep z3 j.toNat).length, rep_length]; exact hz) me⟩)
    · rw [if_neg hz] at q; exact q.elim
  · -- a tuple some times
    rename_i la j h1 h2
    have d1 := vw_dv ra me (by rw [h1]; rfl)
    have d2 := vw_dv rb me (by rw [h2]; rfl)
    rw [h1] at d1
    rw [h2] at d2
    cases o <;> first | exact q.elim | skip
    dsimp only at q
    by_cases hz : la.length ≤ 1000 ∧ la ≠ [] ∧ 2 ≤ j ∧ j ≤ 1000
    · rw [if_pos hz] at q
      obtain ⟨hz, hn, hj, hj2⟩ := hz
      cases d1 with
      | @tup pa xs _ z1 z2 z3 =>
        cases d2
        have l1 := z3.length
        rw [← hK] at z1
        refine op_repT pins s σ H _ _ v u _ I rx ry ⟨pa, j, xs, rfl, rfl, z1, fun e => ?_, hj, hj2, by omega, fun p hp => ?_⟩
        · subst e; cases z3; exact hn rfl
        · exact q (.ref p) _ α (Stp.laid hp) (.d (.tup (SqT.of upd_same) (by
            rw [(FzAll.rep z3 j.toNat).length, rep_length, sizeLine_eq]
            have : la.length * j.toNat ≤ 1000 * 1000 := Nat.mul_le_mul hz (by omega)
            omega) ((FzAll.rep z3 _).ext (Ext.new hp)))) (me.upd hp)
    · rw [if_neg hz] at q; exact q.elim
  · exact q.elim
end
end Pv
namespace Pv
open PySem PySem.Spec PyProof.Rows L2
section
variable {G : Glo} {X : Cx} {n : Nat} {pins : List (Addr × Obj)} {σ : L2.St} {H : Hp} {s : Shared} {α : Al} {m : Mem} {E : EW}
/-! ### items and slices -/
theorem atI_all {K : PySem.W.Frag} {xs : List V} {l : List PV} {i : Int} {r : PV} (h : FzAll K H xs l) (e : ((atI l.length i).bind fun k => l[k]?) = some r) : ∃ y, L2.atI xs i = some y ∧ Fz K H y r := by
  obtain ⟨k, e1, e2⟩ := Option.bind_eq_some_iff.mp e
  obtain ⟨y, h1, h2⟩ := h.get e2
  refine ⟨y, ?_, h2⟩
  unfold L2.atI
  have : L2.ixN xs.length i = some k := by rw [h.length]; exact e1
  rw [this]; exact h1
theorem atI_rp {xs : List V} {l : List PV} {i : Int} {r : PV} (h : RpAll G H α xs l) (e : ((atI l.length i).bind fun k => l[k]?) = some r) : ∃ y, L2.atI xs i = some y ∧ Rp G H α y r := by
  obtain ⟨k, e1, e2⟩ := Option.bind_eq_some_iff.mp e
  obtain ⟨y, h1, h2⟩ := Paired.get' h e2
  refine ⟨y, ?_, h2⟩
  unfold L2.atI
  have : L2.ixN xs.length i = some k := by rw [Paired.length h]; exact e1
  rw [this]; exact h1
theorem item_ok (hK : X.K = G.K) {x y : V} {a b : PV} {Q : VK} (ra : Rp G H α x a) (rb : Rp G H α y b) (me : MemR G H α m) (q : Post G (Rp G) (lft (item m a b) m) H α Q E) : rIx X.K x y H Q := by
  obtain ⟨r, e, q'⟩ := Post.lftv q
  clear q
  unfold item at e
  split at e
  · rename_i l i h1
    have d1 := vw_dv ra me (by rw [h1]; rfl)
    rw [h1] at d1
    have e2 := fz_int rb
    subst e2
    cases d1 with
    | tup z1 z2 z3 =>
      obtain ⟨w, e3, f⟩ := atI_all z3 e
      rw [hK]
      exact .inr (.inl ⟨_, _, _, w, rfl, rfl, z1, e3, Post.ok q' (Rp.d f) me⟩)
  · rename_i l i h1
    have d1 := vw_dv ra me (by rw [h1]; rfl)
    rw [h1] at d1
    have e2 := fz_int rb
    subst e2
    cases d1 with
    | lst z1 z2 z3 =>
      obtain ⟨w, e3, f⟩ := atI_all z3 e
      exact .inl ⟨_, _, _, w, rfl, rfl, .inl z1, e3, Post.ok q' (Rp.d f) me⟩
  · rename_i l i h1
    have d1 := vw_dv ra me (by rw [h1]; rfl)
    rw [h1] at d1
    have e2 := fz_int rb
    subst e2
    obtain ⟨k, e3, e4⟩ := Option.bind_eq_some_iff.mp e
    obtain ⟨c, e5, rfl⟩ := Option.map_eq_some_iff.mp e4
    cases d1 with
    | str _ ok sz =>
      refine .inr (.inr ⟨_, _, c, rfl, rfl, by simpa [Str.length] using sz, ?_, ?_⟩)
      · unfold L2.atI
        have : L2.ixN (⟨l.toArray⟩ : Str).cps.toList.length i = some k := by
          show L2.ixN l.toArray.toList.length i = some k
          rw [List.toList_toArray]; exact e3
        rw [this]
        simpa using e5
      · refine Post.ok (v := PV.str [c]) q' (Rp.d (Fz.str [c] (strOk_sub ok ?_) (by rw [sizeLine_eq]; simp))) me
        intro z hz
        have : z = c := by simpa using hz
        subst this
        exact List.mem_of_getElem? e5
  · rename_i k i h1
    have e2 := fz_int rb
    subst e2
    obtain ⟨l, e3, e4⟩ := Option.bind_eq_some_iff.mp e
    have ha : a = .cell k := by
      cases a with
      | cell j =>
        unfold vw at h1
        cases q2 : m[j]? with
        | none => simp only [q2] at h1; exact h1
        | some l' =>
          simp only [q2] at h1
          split at h1
          · cases h1
          · exact h1
      | _ => cases h1
    subst ha
    cases ra with
    | d h => cases h
    | cell h =>
      obtain ⟨xs, h2, h3, h4⟩ := me.at_ k _ l h e3
      obtain ⟨w, e5, f⟩ := atI_rp h3 e4
      exact .inl ⟨_, _, _, w, rfl, rfl, SqL.of h2, e5, Post.ok q' f me⟩
  · cases e
theorem bound_eq (k d : Nat) (o : Option Int) : bound k d o = HT.sIx k d o := by
  cases o with
  | none => rfl
  | some i => rfl
theorem FzAll.cut {K : PySem.W.Frag} {xs : List V} {l : List PV} (h : FzAll K H xs l) (lo hi : Option Int) : FzAll K H (cutV xs lo hi) (cut l lo hi) := by
  unfold cutV Pv.cut
  rw [bound_eq, bound_eq, ← h.length]
  exact FzAll.take _ (FzAll.drop _ h)
def rSlA3 (K : PySem.W.Frag) : V → Option Int → Option Int → Hp → VK → Prop := fun x lo hi H Q => (rSlA K x lo hi H Q ∨ rSlL K x lo hi H Q) ∨ rSlS x lo hi H Q
theorem sl_any : SlR X (rSlA3 X.K) := (sl_tupA.or sl_list).or sl_str
theorem slice_ok (hK : X.K = G.K) {x : V} {a : PV} {lo hi : Option Int} {pl ph : PV} {Q : VK} (ra : Rp G H α x a) (me : MemR G H α m) (hl : optI pl = some lo) (hh : optI ph = some hi) (q : Post G (Rp G) (lft (slice m a pl ph) m) H α Q E) : rSlA3 X.K x lo hi H (LK Q) := by
  obtain ⟨r, e, q⟩ := Post.lftv q
  unfold slice at e
  rw [hl, hh] at e
  have e : (match vw m a with
    | .tup l => some (PV.tup (cut l lo hi))
    | .lst l => some (PV.lst (cut l lo hi))
    | .str l => some (PV.str (cut l lo hi))
    | _ => none) = some r := e
  split at e
  · rename_i l h1
    have d1 := vw_dv ra me (by rw [h1]; rfl)
    rw [h1] at d1
    cases e
    cases d1 with
    | @tup p xs _ z1 z2 z3 =>
      rw [hK]
      have hc := z3.cut lo hi
      refine .inl (.inl ⟨p, xs, rfl, z1, fun hw => .inl ?_, fun _ p' hp => .inl ?_⟩)
      · have e2 : cutV xs lo hi = xs := by
          unfold cutV
          rw [hw.1, hw.2]
          simp
        have e3 : cut l lo hi = l := by
          unfold cut
          rw [bound_eq, bound_eq, ← z3.length, hw.1, hw.2, z3.length]
          simp
        rw [e3] at q
        exact Post.ok (v := PV.tup _) q (.d (.tup z1 z2 z3)) me
      · exact q (.ref p') _ α (Stp.laid hp) (.d (.tup (SqT.of upd_same) (Nat.le_trans (cutV_length _ _ _) z2) (hc.ext (Ext.new hp)))) (me.upd hp)
  · rename_i l h1
    have d1 := vw_dv ra me (by rw [h1]; rfl)
    rw [h1] at d1
    cases e
    cases d1 with
    | @lst p xs _ z1 z2 z3 =>
      have hc := z3.cut lo hi
      refine .inl (.inr ⟨p, xs, rfl, .inl z1, fun p' hp => ?_⟩)
      refine LK.mk (mu := false) (l := cut l lo hi) (m := m) (E := E) (α := α) (G := G) ?_ hp hc.rp (Nat.le_trans (cutV_length _ _ _) z2) me
      unfold mkl
      rw [if_neg (by decide), if_pos hc.all]
      exact q
  · rename_i l h1
    have d1 := vw_dv ra me (by rw [h1]; rfl)
    rw [h1] at d1
    cases e
    cases d1 with
    | str _ ok sz =>
      have e2 : cutS ⟨l.toArray⟩ lo hi = ⟨(cut l lo hi).toArray⟩ := by
        unfold cutS cut
        rw [bound_eq, bound_eq]
        simp [Str.length]
      refine .inr ⟨_, rfl, by simpa [Str.length] using sz, .inl ?_⟩
      rw [e2]
      refine Post.ok (v := PV.str _) q (.d (.str _ (strOk_sub ok ?_) ?_)) me
      · intro z hz
        exact List.mem_of_mem_drop (List.mem_of_mem_take hz)
      · refine Nat.le_trans ?_ sz
        unfold cut
        rw [List.length_take, List.length_drop]
        omega
  · cases e
/-! ### built-in functions -/
theorem bools_fz {K : PySem.W.Frag} : ∀ {xs : List V} {l : List PV} {is : List Bool}, FzAll K H xs l → boolsOf l = some is → xs = is.map V.bl
  | _, _, _, .nil, e => by cases e; rfl
  | _, _, _, .cons a b, e => by
    cases a with
    | bl i =>
      simp only [boolsOf] at e
      obtain ⟨is, e1, e2⟩ := Option.map_eq_some_iff.mp e
      subst e2
      rw [bools_fz b e1]; rfl
    | _ => simp [boolsOf] at e
theorem one_arg {xs : List V} {x : PV} (h : RpAll G H α xs [x]) : ∃ v, xs = [v] ∧ Rp G H α v x := by
  cases h with
  | cons a b => cases b; exact ⟨_, rfl, a⟩
def bfId : Bf → Option (Str × Value)
  | .len => some ("len", .builtin "len")
  | .abs => some ("abs", .builtin "abs")
  | .int_ => some ("int", .type "int")
  | .tuple => some ("tuple", .type "tuple")
  | .list => some ("list", .type "list")
  | .all => some ("all", .builtin "all")
  | .any => some ("any", .builtin "any")
  | .sum => some ("sum", .builtin "sum")
  | .max => some ("max", .builtin "max")
  | .min => some ("min", .builtin "min")
  | .sorted => some ("sorted", .builtin "sorted")
  | _ => none
theorem foldl_max : ∀ (l : List Int) (a : Int), (l.foldl max a ∈ a :: l) ∧ ∀ y ∈ a :: l, y ≤ l.foldl max a
  | [], a => by simp
  | b :: l, a => by
    obtain ⟨h1, h2⟩ := foldl_max l (max a b)
    rw [List.foldl_cons]
    refine ⟨?_, fun y hy => ?_⟩
    · rcases List.mem_cons.mp h1 with e | e
      · rw [e]
        by_cases h : a ≤ b
        · rw [Int.max_eq_right h]; simp
        · rw [Int.max_eq_left (by omega)]; simp
      · simp [e]
    · have h3 := h2 (max a b) (by simp)
      have h4 : a ≤ max a b := Int.le_max_left a b
      have h5 : b ≤ max a b := Int.le_max_right a b
      rcases List.mem_cons.mp hy with e | e
      · omega
      · rcases List.mem_cons.mp e with e | e
        · omega
        · exact h2 y (by simp [e])
theorem foldl_min : ∀ (l : List Int) (a : Int), (l.foldl min a ∈ a :: l) ∧ ∀ y ∈ a :: l, l.foldl min a ≤ y
  | [], a => by simp
  | b :: l, a => by
    obtain ⟨h1, h2⟩ := foldl_min l (min a b)
    rw [List.foldl_cons]
    refine ⟨?_, fun y hy => ?_⟩
    · rcases List.mem_cons.mp h1 with e | e
      · rw [e]
        by_cases h : a ≤ b
        · rw [Int.min_eq_left h]; simp
        · rw [Int.min_eq_right (by omega)]; simp
      · simp [e]
    · have h3 := h2 (min a b) (by simp)
      have h4 : min a b ≤ a := Int.min_le_left a b
      have h5 : min a b ≤ b := Int.min_le_right a b
      rcases List.mem_cons.mp hy with e | e
      · omega
      · rcases List.mem_cons.mp e with e | e
        · omega
        · exact h2 y (by simp [e])
theorem max_unique {l : List Int} {a k : Int} {is : List Int} (e : l = a :: is) (h1 : k ∈ l) (h2 : ∀ y, y ∈ l → y ≤ k) : k = is.foldl max a := by
  subst e
  obtain ⟨h3, h4⟩ := foldl_max is a
  have := h2 _ h3
  have := h4 _ h1
  omega
theorem min_unique {l : List Int} {a k : Int} {is : List Int} (e : l = a :: is) (h1 : k ∈ l) (h2 : ∀ y, y ∈ l → k ≤ y) : k = is.foldl min a := by
  subst e
  obtain ⟨h3, h4⟩ := foldl_min is a
  have := h2 _ h3
  have := h4 _ h1
  omega
theorem call_bf (hK : X.K = G.K) (hc : X.calm = true) (hu : X.A.units + 70 < cLine) {b : Bf} {nm : Str} {f : Value} (hb : bfId b = some (nm, f)) {mu : Bool} {xs : List V} {l : List PV} {us : List Value} {Q : VK} (I : L2.Inv X pins σ H s) (r : Vals xs us) (ra : RpAll G H α xs l) (me : MemR G H α m)
    (q : Post G (Rp G) (callB mu b l m) H α Q E) : wpAny (model X.prog X.w) X.A (call f us) (EP X pins σ Q) X.xe s := by
  unfold callB at q
  split at q
  · -- len
    rename_i x
    cases hb
    obtain ⟨v, rfl, rv⟩ := one_arg ra
    split at q
    · rename_i l' h1
      have d1 := vw_dv rv me (by rw [h1]; rfl)
      rw [h1] at d1
      cases d1 with
      | tup z1 z2 z3 =>
        rw [← hK] at z1
        exact call_len_seq pins s σ H _ us Q I r ⟨_, _, rfl, .inr z1, by rw [z3.length]; exact Post.ok (v := PV.int _) q (.d (.int _)) me⟩
    · rename_i l' h1
      have d1 := vw_dv rv me (by rw [h1]; rfl)
      rw [h1] at d1
      cases d1 with
      | lst z1 z2 z3 => exact call_len_seq pins s σ H _ us Q I r ⟨_, _, rfl, .inl (.inl z1), by rw [z3.length]; exact Post.ok (v := PV.int _) q (.d (.int _)) me⟩
    · rename_i l' h1
      have d1 := vw_dv rv me (by rw [h1]; rfl)
      rw [h1] at d1
      cases d1 with
      | str _ ok sz =>
        have e : (⟨l'.toArray⟩ : Str).length = l'.length := by simp [Str.length]
        exact call_len_str pins s σ H _ us Q I r ⟨_, rfl, by rw [e]; exact sz, by rw [e]; exact Post.ok (v := PV.int _) q (.d (.int _)) me⟩
    · rename_i k h1
      obtain ⟨w, e, q⟩ := Post.lftv q
      obtain ⟨l', e1, rfl⟩ := Option.map_eq_some_iff.mp e
      have ha : x = .cell k := by
        cases x with
        | cell j =>
          unfold vw at h1
          cases q2 : m[j]? with
          | none => simp only [q2] at h1; exact h1
          | some l' =>
            simp only [q2] at h1
            split at h1
            · cases h1
            · exact h1
        | _ => cases h1
      subst ha
      cases rv with
      | d h => cases h
      | cell h =>
        obtain ⟨ys, h2, h3, h4⟩ := me.at_ k _ l' h e1
        exact call_len_seq pins s σ H _ us Q I r ⟨_, _, rfl, .inl (SqL.of h2), by rw [Paired.length h3]; exact Post.ok (v := PV.int _) q (.d (.int _)) me⟩
    · exact q.elim
  · -- abs
    rename_i i
    cases hb
    obtain ⟨v, rfl, rv⟩ := one_arg ra
    have e := fz_int rv
    subst e
    exact call_abs pins s σ H _ us Q I r ⟨_, rfl, Post.ok (v := PV.int _) q (.d (.int _)) me⟩
  · -- int
    rename_i i
    cases hb
    obtain ⟨v, rfl, rv⟩ := one_arg ra
    have e := fz_int rv
    subst e
    exact call_int1 pins s σ H _ us Q I r (.inl ⟨_, rfl, Post.ok (v := PV.int _) q (.d (.int _)) me⟩)
  · -- tuple
    rename_i x
    cases hb
    obtain ⟨v, rfl, rv⟩ := one_arg ra
    split at q
    · rename_i l' h1
      have d1 := vw_dv rv me (by rw [h1]; rfl)
      rw [h1] at d1
      cases d1 with
      | tup z1 z2 z3 =>
        have z1' := z1
        rw [← hK] at z1'
        exact call_tuple_of pins s σ H _ us Q I r ⟨_, _, rfl, .inr ⟨z1', Post.ok (v := PV.tup _) q (.d (.tup z1 z2 z3)) me⟩⟩
    · rename_i l' h1
      have d1 := vw_dv rv me (by rw [h1]; rfl)
      rw [h1] at d1
      cases d1 with
      | lst z1 z2 z3 =>
        exact call_tuple_of pins s σ H _ us Q I r ⟨_, _, rfl, .inl ⟨.inl z1, fun p hp => q (.ref p) _ α (Stp.laid hp) (.d (.tup (SqT.of upd_same) z2 (z3.ext (Ext.new hp)))) (me.upd hp)⟩⟩
    · exact q.elim
  · -- list
    rename_i x
    cases hb
    obtain ⟨v, rfl, rv⟩ := one_arg ra
    split at q
    · rename_i l' h1
      have d1 := vw_dv rv me (by rw [h1]; rfl)
      rw [h1] at d1
      cases d1 with
      | tup z1 z2 z3 =>
        rw [← hK] at z1
        exact thnLK (call_list_of pins s σ H _ us _ I r ⟨_, _, rfl, .inr z1, fun p hp => LK.mk q hp z3.rp z2 me⟩)
    · rename_i l' h1
      have d1 := vw_dv rv me (by rw [h1]; rfl)
      rw [h1] at d1
      cases d1 with
      | lst z1 z2 z3 => exact thnLK (call_list_of pins s σ H _ us _ I r ⟨_, _, rfl, .inl (.inl z1), fun p hp => LK.mk q hp z3.rp z2 me⟩)
    · rename_i k h1
      have ha : x = .cell k := by
        cases x with
        | cell j =>
          unfold vw at h1
          cases q2 : m[j]? with
          | none => simp only [q2] at h1; exact h1
          | some l' =>
            simp only [q2] at h1
            split at h1
            · cases h1
            · exact h1
        | _ => cases h1
      subst ha
      cases e1 : m[k]? with
      | none => simp only [e1] at q; exact q.elim
      | some l' =>
        simp only [e1] at q
        cases rv with
        | d h => cases h
        | cell h =>
          obtain ⟨ys, h2, h3, h4⟩ := me.at_ k _ l' h e1
          exact thnLK (call_list_of pins s σ H _ us _ I r ⟨_, _, rfl, .inl (SqL.of h2), fun p hp => LK.mk q hp h3 h4 me⟩)
    · exact q.elim
  · -- all
    rename_i x
    cases hb
    obtain ⟨v, rfl, rv⟩ := one_arg ra
    split at q
    · rename_i l' h1
      have d1 := vw_dv rv me (by rw [h1]; rfl)
      rw [h1] at d1
      obtain ⟨w, e, q⟩ := Post.lftv q
      obtain ⟨bs, e1, rfl⟩ := Option.map_eq_some_iff.mp e
      cases d1 with
      | lst z1 z2 z3 =>
        have h2 := bools_fz z3 e1
        subst h2
        exact cr_all hc pins s σ H _ us Q I r ⟨_, _, rfl, .inl z1, Post.ok (v := PV.bl _) q (.d (.bl _)) me⟩
    · exact q.elim
  · -- any
    rename_i x
    cases hb
    obtain ⟨v, rfl, rv⟩ := one_arg ra
    split at q
    · rename_i l' h1
      have d1 := vw_dv rv me (by rw [h1]; rfl)
      rw [h1] at d1
      obtain ⟨w, e, q⟩ := Post.lftv q
      obtain ⟨bs, e1, rfl⟩ := Option.map_eq_some_iff.mp e
      cases d1 with
      | lst z1 z2 z3 =>
        have h2 := bools_fz z3 e1
        subst h2
        exact cr_any hc pins s σ H _ us Q I r ⟨_, _, rfl, .inl z1, Post.ok (v := PV.bl _) q (.d (.bl _)) me⟩
    · exact q.elim
  · -- sum
    rename_i x
    cases hb
    obtain ⟨v, rfl, rv⟩ := one_arg ra
    split at q
    · rename_i l' h1
      have d1 := vw_dv rv me (by rw [h1]; rfl)
      rw [h1] at d1
      obtain ⟨w, e, q⟩ := Post.lftv q
      obtain ⟨bs, e1, rfl⟩ := Option.map_eq_some_iff.mp e
      cases d1 with
      | lst z1 z2 z3 =>
        have h2 := ints_fz z3 e1
        subst h2
        exact cr_sum hc pins s σ H _ us Q I r ⟨_, _, rfl, .inl z1, Post.ok (v := PV.int _) q (.d (.int _)) me⟩
    · exact q.elim
  · -- max
    rename_i x
    cases hb
    obtain ⟨v, rfl, rv⟩ := one_arg ra
    split at q
    · rename_i l' h1
      have d1 := vw_dv rv me (by rw [h1]; rfl)
      rw [h1] at d1
      split at q
      · rename_i i is e1
        cases d1 with
        | lst z1 z2 z3 =>
          have h2 := ints_fz z3 e1
          subst h2
          exact cr_max hc pins s σ H _ us Q I r ⟨_, _, rfl, .inl z1, by simp, fun k h3 h4 => by
            rw [max_unique rfl h3 h4]; exact Post.ok (v := PV.int _) q (.d (.int _)) me⟩
      · exact q.elim
    · exact q.elim
  · -- min
    rename_i x
    cases hb
    obtain ⟨v, rfl, rv⟩ := one_arg ra
    split at q
    · rename_i l' h1
      have d1 := vw_dv rv me (by rw [h1]; rfl)
      rw [h1] at d1
      split at q
      · rename_i i is e1
        cases d1 with
        | lst z1 z2 z3 =>
          have h2 := ints_fz z3 e1
          subst h2
          exact cr_min hc pins s σ H _ us Q I r ⟨_, _, rfl, .inl z1, by simp, fun k h3 h4 => by
            rw [min_unique rfl h3 h4]; exact Post.ok (v := PV.int _) q (.d (.int _)) me⟩
      · exact q.elim
    · exact q.elim
  · cases hb
  · cases hb
  · -- sorted
    rename_i x
    cases hb
    obtain ⟨v, rfl, rv⟩ := one_arg ra
    split at q
    · rename_i l' h1
      have d1 := vw_dv rv me (by rw [h1]; rfl)
      rw [h1] at d1
      by_cases hs : (sortable l' && decide (l'.length ≤ 1000) && decide (depAll l' ≤ 62)) = true
      · rw [if_pos hs] at q
        simp only [Bool.and_eq_true, decide_eq_true_eq] at hs
        cases d1 with
        | lst z1 z2 z3 =>
          refine thnLK (cr_sortedD hu pins s σ H _ us _ I r ⟨_, _, l', rfl, .inl z1, by rw [hK]; exact z3, hs.1.1, hs.2, fun p out hp fo => ?_⟩)
          rw [hK] at fo
          have e := FzAll.length fo
          rw [(isort_perm l').length_eq] at e
          exact LK.mk q hp fo.rp (by rw [e]; exact small_size hs.1.2) me
      · rw [if_neg hs] at q
        exact q.elim
    · exact q.elim
  · exact q.elim
/-! ### isinstance -/
def tyN : Ty → String
  | .int => "int"
  | .bool => "bool"
  | .str => "str"
  | .tuple => "tuple"
  | .list => "list"
theorem tyx_ok {x : V} {a : PV} (h : Rp G H α x a) (hd : a.isD = true) : ∃ t, TyX G.K H x (.type t) ∧ (t = match a with | .non => "NoneType" | .bl _ => "bool" | .int _ => "int" | .str _ => "str" | .tup _ => "tuple" | _ => "list") := by
  have f := h.fz hd
  cases f with
  | non => exact ⟨_, .base .non, rfl⟩
  | bl b => exact ⟨_, .base (.bl b), rfl⟩
  | int b => exact ⟨_, .base (.int b), rfl⟩
  | str b _ _ => exact ⟨_, .base (.str _), rfl⟩
  | tup z1 z2 z3 =>
    refine ⟨"tuple", ?_, rfl⟩
    rcases z1 with (h | ⟨o, h⟩) | ⟨o, its, k, h1, h2, _⟩
    · exact .base (.tup h)
    · exact .fTuple h
    · exact .kTuple h1 h2
  | lst z1 z2 z3 =>
    obtain ⟨o, h⟩ := z1
    exact ⟨"list", .base (.frz h), rfl⟩
theorem kit_dec : ∀ t ∈ ["NoneType", "bool", "int", "str", "tuple", "list"], ∀ u ∈ ["int", "bool", "str", "tuple", "list"], L2.kitB t u = some (decide (t = u) || (t == "bool" && u == "int")) := by decide +kernel
theorem isi_ok (hK : X.K = G.K) {x : V} {a : PV} {t : Ty} {Q : VK} (ra : Rp G H α x a) (me : MemR G H α m) (q : Post G (Rp G) (lft ((isTy m a t).map .bl) m) H α Q E) : rIsi X.K [x, .ty (tyN t)] H Q := by
  obtain ⟨b, e, q⟩ := Post.lftb q me
  have hd : a.isD = true := by
    cases a <;> first | rfl | (cases t <;> cases e)
  obtain ⟨ty, h1, h2⟩ := tyx_ok ra hd
  rw [hK]
  refine ⟨x, _, .type ty, _, b, rfl, .ty _, h1, kit_ty ?_, q⟩
  have key : ∀ (u : String), u ∈ ["NoneType", "bool", "int", "str", "tuple", "list"] → L2.kitB u (tyN t) = some (decide (u = tyN t) || (u == "bool" && tyN t == "int")) := fun u hu => kit_dec u hu _ (by cases t <;> simp [tyN])
  subst h2
  cases a with
  | cell _ => cases hd
  | fn _ => cases hd
  | non => rw [key _ (by simp)]; cases t <;> (cases e; rfl)
  | bl c => rw [key _ (by simp)]; cases t <;> (cases e; rfl)
  | int c => rw [key _ (by simp)]; cases t <;> (cases e; rfl)
  | str c => rw [key _ (by simp)]; cases t <;> (cases e; rfl)
  | tup c => rw [key _ (by simp)]; cases t <;> (cases e; rfl)
  | lst c => rw [key _ (by simp)]; cases t <;> (cases e; rfl)
end
end Pv
namespace Pv
open PySem PySem.Spec PyProof.Rows L2
/-! ## The check: a text of Python against the evaluator's text -/
structure Nm where
  fx : List Str
  cx : List Str
  kx : List Str
  bx : List Str
  hx : List Hl
def Glo.nms (G : Glo) : Nm := ⟨G.fx, G.cx, G.kx, G.bx, G.hx⟩
def plain : Expr → Bool
  | .Set .. => false
  | .Starred .. => false
  | .Slice .. => false
  | .SetComp .. => false
  | .DictComp .. => false
  | .NamedExpr .. => false
  | _ => true
def glB (sc : Scope) (x : Str) : Bool := decide (sc.names.lookup x = some .globalImplicit) && !(x == ("__debug__" : Str))
def visB (sc : Scope) (x : Str) : Bool := (match sc.names.lookup x with
  | some .local => true
  | some .cell => true
  | some .free => true
  | _ => false) && !(x == ("__debug__" : Str)) && !(x == ("__classdict__" : Str))
def bltB (nm : Nm) (sc : Scope) (x : Str) : Bool := nm.bx.contains x && glB sc x && !(x == ("__name__" : Str))
def opB : Op → Operator → Bool
  | .add, .Add => true
  | .sub, .Sub => true
  | .mul, .Mult => true
  | .fdiv, .FloorDiv => true
  | .mod, .Mod => true
  | .pow, .Pow => true
  | .band, .BitAnd => true
  | .bor, .BitOr => true
  | .bxor, .BitXor => true
  | .shr, .RShift => true
  | _, _ => false
theorem opB_ok {o : Op} {p : Operator} (h : opB o p = true) : p = opOp o := by
  cases o <;> cases p <;> first | rfl | cases h
def cmB : Cm → CmpOp → Bool
  | .eq, .Eq => true
  | .ne, .NotEq => true
  | .lt, .Lt => true
  | .le, .LtE => true
  | .gt, .Gt => true
  | .ge, .GtE => true
  | .is_, .Is => true
  | .isnot, .IsNot => true
  | .in_, .In => true
  | .notin, .NotIn => true
  | _, _ => false
theorem cmB_ok {o : Cm} {p : CmpOp} (h : cmB o p = true) : p = cmOp o := by
  cases o <;> cases p <;> first | rfl | cases h
def ownOf (N : List Str) (own : List Nat) : List (Str × Nat) := own.map fun i => (N.getD i Str.empty, i)
section
variable (nm : Nm) (N : List Str)
mutual
def chkT (fc : Str → Bool) (sc : Scope) : Tg → Expr → Bool
  | .v i, .Name x _ => decide (N[i]? = some x) && (decide (sc.names.lookup x = some .local) || (decide (sc.names.lookup x = some .cell) && fc x))
  | .t l, .Tuple es _ _ => chkTs fc sc l es
  | _, _ => false
def chkTs (fc : Str → Bool) (sc : Scope) : Tg → List Expr → Bool
  | .nil, [] => true
  | .cons a l, e :: es => chkT fc sc a e && chkTs fc sc l es
  | _, _ => false
end
def _root_.Pv.Tg.slots : Tg → List Nat
  | .v i => [i]
  | .t l => l.slots
  | .nil => []
  | .cons a l => a.slots ++ l.slots
def srcT : E → Expr → Bool
  | .zip _ _, .Tuple .. => true
  | .zip _ _, _ => false
  | .zip3 _ _ _, .Tuple .. => true
  | .zip3 _ _ _, _ => false
  | .enu _, .Tuple .. => true
  | .enu _, _ => false
  | _, _ => true
def keysB : List (List Nat) → List (Option Expr) → Bool
  | [], [] => true
  | k :: ks, some (.Constant (.str x) _ _) :: es => decide (x = ⟨k.toArray⟩) && keysB ks es
  | _, _ => false
def tyB (t : Ty) (x : Str) : Bool := x == Str.ofString (tyN t)
/-- what is let stand where the evaluator gives no answer -/
def wildB : Expr → Bool
  | .UnaryOp .Not _ _ => false
  | .BoolOp .. => false
  | .IfExp .. => false
  | .Compare .. => false
  | e => plain e
mutual
def chkE : E → Scope → Expr → Bool
  | .k v, sc, e => (match v, e with
    | .non, .Constant .none _ _ => true
    | .bl b, .Constant (.bool c) _ _ => b == c
    | .int i, .Constant (.int j) _ _ => decide (i = j)
    | .str s, .Constant (.str x) _ _ => decide (x = ⟨s.toArray⟩) && PyData.strOk ⟨s.toArray⟩ && decide (s.length ≤ 1000)
    | .fn i, .Name x _ => decide (nm.fx[i]? = some x) && glB sc x
    | _, _ => false)
  | .loc i, sc, .Name x _ => decide (N[i]? = some x) && visB sc x
  | .glo i, sc, .Name x _ => decide (nm.cx[i]? = some x) && glB sc x
  | .bin _ o a b, sc, .BinOp l op r _ => opB o op && chkE a sc l && chkE b sc r
  | .neg a, sc, .UnaryOp .USub e _ => chkE a sc e
  | .not a, sc, .UnaryOp .Not e _ => chkE a sc e
  | .and a b, sc, .BoolOp .And (x :: y :: r) pos => chkE a sc x && (match r with
    | [] => chkE b sc y
    | _ => chkE b sc (.BoolOp .And (y :: r) pos))
  | .or a b, sc, .BoolOp .Or (x :: y :: r) pos => chkE a sc x && (match r with
    | [] => chkE b sc y
    | _ => chkE b sc (.BoolOp .Or (y :: r) pos))
  | .cmp c a b, sc, .Compare l [op] [r] _ => cmB c op && chkE a sc l && chkE b sc r
  | .cmp2 c d a b e, sc, .Compare l [op, op'] [r, z] _ => cmB c op && cmB d op' && chkE a sc l && chkE b sc r && chkE e sc z
  | .ite c a b, sc, .IfExp t x y _ => chkE c sc t && chkE a sc x && chkE b sc y
  | .tup l, sc, .Tuple es _ _ => chkL l sc es
  | .lst _ l, sc, .List es _ => chkL l sc es
  | .ix a b, sc, .Subscript x y _ => chkE a sc x && chkE b sc y
  | .sl a lo hi, sc, .Subscript x (.Slice l h none _) _ => chkE a sc x && (match lo, l with
    | .k .non, none => true
    | lo, some l => chkE lo sc l
    | _, _ => false) && (match hi, h with
    | .k .non, none => true
    | hi, some h => chkE hi sc h
    | _, _ => false)
  | .call f l, sc, .Call (.Name x _) es [] _ => decide (nm.fx[f]? = some x) && glB sc x && chkL l sc es
  | .bf _ b l, sc, .Call (.Name x _) (e :: es) [] _ => (match bfId b, e with
    | none, .Call (.Name y _) [e] [] _ => (match b, es with
      | .sortset, [] => decide (x = Str.ofString "sorted") && bltB nm sc x && decide (y = Str.ofString "set") && bltB nm sc y && chkL l sc [e]
      | .lenset, [] => decide (x = Str.ofString "len") && bltB nm sc x && decide (y = Str.ofString "set") && bltB nm sc y && chkL l sc [e]
      | _, _ => false)
    | none, _ => false
    | some (z, _), e => decide (x = z) && bltB nm sc x && chkL l sc (e :: es))
  | .callv f l, sc, .Call (.Name x p) es [] _ => chkE f sc (.Name x p) && chkL l sc es
  | .isi a t, sc, .Call (.Name x _) [e, .Name y _] [] _ => decide (x = Str.ofString "isinstance") && bltB nm sc x && chkE a sc e && tyB t y && bltB nm sc y
  | .comp _ own t s c e, sc, .ListComp elt [⟨tg, iter, ifs, asy⟩] scope _ => decide (asy = 0) && srcT s tg && chkE s sc iter && blkC N sc scope (ownOf N own) && chkT N (fun x => scope.names.lookup x == some .cell) (relS scope sc) t tg && t.slots.all (fun i => own.contains i) && (match ifs with
    | [] => (match c with
      | .k (.bl true) => true
      | _ => false)
    | [i] => chkE c (relS scope sc) i
    | _ => false) && chkE e (relS scope sc) elt
  | .app o e, sc, .Call (.Attribute x y apos) [z] [] pos => decide (y = Str.ofString "append") && decide (apos.endLine = pos.line) && chkE o sc x && chkE e sc z && (match x with
    | .Name .. => true
    | _ => false)
  | .popl o, sc, .Call (.Attribute x y apos) [] [] pos => decide (y = Str.ofString "pop") && decide (apos.endLine = pos.line) && chkE o sc x && (match x with
    | .Name .. => true
    | _ => false)
  | .popi o i, sc, .Call (.Attribute x y apos) [z] [] pos => decide (y = Str.ofString "pop") && decide (apos.endLine = pos.line) && chkE o sc x && chkE i sc z && (match x with
    | .Name .. => true
    | _ => false)
  | .index o e, sc, .Call (.Attribute x y apos) [z] [] pos => decide (y = Str.ofString "index") && decide (apos.endLine = pos.line) && chkE o sc x && chkE e sc z && (match x with
    | .Call _ [] [] _ => false
    | _ => true)
  | .indexc i e, sc, .Call (.Attribute (.Name x _) y apos) [z] [] pos => decide (y = Str.ofString "index") && decide (apos.endLine = pos.line) && decide (nm.cx[i]? = some x) && glB sc x && chkE e sc z
  | .enu a, sc, .Call (.Name x _) [e] [] _ => decide (x = Str.ofString "enumerate") && bltB nm sc x && chkE a sc e
  | .rng a, sc, .Call (.Name x _) [e] [] _ => decide (x = Str.ofString "range") && bltB nm sc x && chkE a sc e
  | .rng2 a b, sc, .Call (.Name x _) [e, f] [] _ => decide (x = Str.ofString "range") && bltB nm sc x && chkE a sc e && chkE b sc f
  | .zip a b, sc, .Call (.Name x _) [e, f] [] _ => decide (x = Str.ofString "zip") && bltB nm sc x && chkE a sc e && chkE b sc f
  | .zip3 a b c, sc, .Call (.Name x _) [e, f, g] [] _ => decide (x = Str.ofString "zip") && bltB nm sc x && chkE a sc e && chkE b sc f && chkE c sc g
  | .trng a, sc, .Call (.Name x _) [.Call (.Name y _) [e] [] _] [] _ => decide (x = Str.ofString "tuple") && bltB nm sc x && decide (y = Str.ofString "range") && bltB nm sc y && chkE a sc e
  | .trng2 a b, sc, .Call (.Name x _) [.Call (.Name y _) [e, f] [] _] [] _ => decide (x = Str.ofString "tuple") && bltB nm sc x && decide (y = Str.ofString "range") && bltB nm sc y && chkE a sc e && chkE b sc f
  | .wild, sc, e => wildB e
  | .dget ks vs k d, sc, .Call (.Attribute (.Dict kes ves _) y apos) [e, f] [] pos => decide (y = Str.ofString "get") && decide (apos.endLine = pos.line) && keysB ks kes && decide ks.Nodup && decide (ks.length = ves.length) && decide (ks ≠ []) && decide (ks.length ≤ 15) && chkL vs sc ves && chkE k sc e && chkE d sc f
  | .tell ws d e, sc, .Call (.Name x _) [.Lambda params body scope _] [] _ => nm.hx.contains ⟨x, ws, d⟩ && glB sc x && LamX.lamSB sc scope && noPar params && chkE e scope body
  | _, _, _ => false
def chkL : E → Scope → List Expr → Bool
  | .nil, _, [] => true
  | .cons a l, sc, e :: es => chkE a sc e && chkL l sc es
  | _, _, _ => false
end
end
mutual
/-- range, enumerate, zip stand at sources alone -/
def vOk : Bool → E → Bool
  | lb, .rng _ => false
  | lb, .rng2 _ _ => false
  | lb, .enu _ => false
  | lb, .zip _ _ => false
  | lb, .zip3 _ _ _ => false
  | lb, .bin _ _ a b => vOk lb a && vOk lb b
  | lb, .neg a => vOk lb a
  | lb, .not a => vOk lb a
  | lb, .and a b => vOk lb a && vOk lb b
  | lb, .or a b => vOk lb a && vOk lb b
  | lb, .cmp _ a b => vOk lb a && vOk lb b
  | lb, .cmp2 _ _ a b e => vOk lb a && vOk lb b && vOk lb e
  | lb, .ite c a b => vOk lb c && vOk lb a && vOk lb b
  | lb, .cons a l => vOk lb a && vOk lb l
  | lb, .tup l => vOk lb l
  | lb, .lst _ l => vOk lb l
  | lb, .ix a b => vOk lb a && vOk lb b
  | lb, .sl a b c => vOk lb a && vOk lb b && vOk lb c
  | lb, .rev a => vOk lb a
  | lb, .call _ l => vOk lb l
  | lb, .callv f l => vOk lb f && vOk lb l
  | lb, .bf _ _ l => vOk lb l
  | lb, .isi a _ => vOk lb a
  | lb, .comp _ _ _ s c e => iOk lb s && vOk lb c && vOk lb e
  | lb, .app a b => vOk lb a && vOk lb b
  | lb, .popl a => vOk lb a
  | lb, .popi a b => vOk lb a && vOk lb b
  | lb, .index a b => vOk lb a && vOk lb b
  | lb, .indexc _ b => vOk lb b
  | lb, .dget _ a b c => vOk lb a && vOk lb b && vOk lb c
  | lb, .tell _ _ e => lb && vOk false e
  | lb, .trng a => vOk lb a
  | lb, .trng2 a b => vOk lb a && vOk lb b
  | _, _ => true
def iOk : Bool → E → Bool
  | lb, .rng a => vOk lb a
  | lb, .rng2 a b => vOk lb a && vOk lb b
  | lb, .enu a => vOk lb a
  | lb, .zip a b => vOk lb a && vOk lb b
  | lb, .zip3 a b c => vOk lb a && vOk lb b && vOk lb c
  | lb, .bin _ _ a b => vOk lb a && vOk lb b
  | lb, .ite c a b => vOk lb c && vOk lb a && vOk lb b
  | lb, .tup l => vOk lb l
  | lb, .lst _ l => vOk lb l
  | lb, .ix a b => vOk lb a && vOk lb b
  | lb, .sl a b c => vOk lb a && vOk lb b && vOk lb c
  | lb, .rev a => vOk lb a
  | lb, .call _ l => vOk lb l
  | lb, .callv f l => vOk lb f && vOk lb l
  | lb, .bf _ _ l => vOk lb l
  | lb, .comp _ _ _ s c e => iOk lb s && vOk lb c && vOk lb e
  | lb, .popl a => vOk lb a
  | lb, .popi a b => vOk lb a && vOk lb b
  | lb, .dget _ a b c => vOk lb a && vOk lb b && vOk lb c
  | lb, .trng a => vOk lb a
  | lb, .trng2 a b => vOk lb a && vOk lb b
  | lb, .loc _ => true
  | lb, .glo _ => true
  | lb, .k _ => true
  | _, _ => false
end
end Pv
namespace Pv
open PySem PySem.Spec PyProof.Rows L2
/-! ## Expressions -/
def GoodJ (G : Glo) (H : Hp) (α : Al) (J : It) (sv : PV) : Prop := (∃ l, (sv = .tup l ∨ sv = .lst l) ∧ l.length ≤ sizeLine ∧ ∃ (Gd : Hp → Prop) (Y : Nat → Hp → V → Hp → Prop), Walk J l.length Gd Y ∧ (∀ H', Ext H H' → Gd H') ∧
  ∀ i H1 x H2, Ext H H1 → i < l.length → Y i H1 x H2 → (H2 = H1 ∨ ∃ T o, H1 T = none ∧ H2 = L2.upd H1 T o) ∧ ∃ it, l[i]? = some it ∧ Fz G.K H2 x it) ∨ ∃ k a, sv = .cell k ∧ α[k]? = some a ∧ J = Itl G.K a
def sq : PV → Mem → R PV
  | .tup l, m => .ok (.tup l) m
  | .lst l, m => .ok (.lst l) m
  | .cell k, m => .ok (.cell k) m
  | _, _ => .no
def tI (G : Glo) (n : Nat) (W : WX) (c : E) : TI := fun σ H R => ∃ α ρ m, EnvR G H α ρ σ ∧ MemR G H α m ∧ Post G (GoodJ G) (bnd (evE G.pr.con (run G.pr n) c ρ m) sq) H α R (wE W σ)
def OkE (G : Glo) (lb : Bool) (n : Nat) (c : E) : Prop := ∀ (N : List Str) (sc : Scope) (e : Expr) (X : Cx) (W : WX), CG G lb n N sc W X → chkE G.nms N c sc e = true → PE X e (tE G n W c)
def OkT (G : Glo) (lb : Bool) (n : Nat) (c : E) : Prop := ∀ (N : List Str) (sc : Scope) (e : Expr) (X : Cx) (W : WX), CG G lb n N sc W X → chkE G.nms N c sc e = true → PT X e (tT G n W c)
def OkL (G : Glo) (lb : Bool) (n : Nat) (c : E) : Prop := ∀ (N : List Str) (sc : Scope) (es : List Expr) (X : Cx) (W : WX), CG G lb n N sc W X → chkL G.nms N c sc es = true → PA X es (tA G n W c)
def OkI (G : Glo) (lb : Bool) (n : Nat) (c : E) : Prop := ∀ (N : List Str) (sc : Scope) (e : Expr) (tg : Expr) (X : Cx) (W : WX), CG G lb n N sc W X → srcT c tg = true → chkE G.nms N c sc e = true → PI X tg e (tI G n W c)
section
variable {G : Glo} {lb : Bool} {n : Nat} {N : List Str} {sc : Scope} {X : Cx} {W : WX}
theorem gl_ok (C : CG G lb n N sc W X) {x : Str} (h : glB sc x = true) : Gl X x ∧ (x == ("__debug__" : Str)) = false := by
  unfold glB at h
  simp only [Bool.and_eq_true, decide_eq_true_eq, Bool.not_eq_true'] at h
  exact ⟨by show X.env.scope.names.lookup x = _; rw [C.sc]; exact h.1, h.2⟩
theorem vis_ok (C : CG G lb n N sc W X) {x : Str} (h : visB sc x = true) : Vis X.env.scope x ∧ (x == ("__debug__" : Str)) = false ∧ (x == ("__classdict__" : Str)) = false := by
  unfold visB at h
  simp only [Bool.and_eq_true, Bool.not_eq_true'] at h
  obtain ⟨⟨h1, h2⟩, h3⟩ := h
  refine ⟨?_, h2, h3⟩
  rw [C.sc]
  unfold Vis
  split at h1
  · rename_i q; exact .inl q
  · rename_i q; exact .inr (.inl q)
  · rename_i q; exact .inr (.inr q)
  · cases h1
theorem blt_ok (hG : GOk G) (C : CG G lb n N sc W X) {x : Str} (h : bltB G.nms sc x = true) : Gl X x ∧ X.mg x = none ∧ x ≠ "__name__" ∧ (x == ("__debug__" : Str)) = false := by
  unfold bltB at h
  simp only [Bool.and_eq_true, Bool.not_eq_true'] at h
  obtain ⟨⟨h1, h2⟩, h3⟩ := h
  obtain ⟨g1, g2⟩ := gl_ok C h2
  refine ⟨g1, ?_, fun z => by rw [z] at h3; simp at h3, g2⟩
  rw [C.mg]
  exact hG.bt x (by simpa [Glo.nms] using h1)
theorem starEach_plain {e : Expr} {es : List Expr} {env : PySem.Env} (h : plain e = true) : starEach (e :: es) env = (false, eval e env) :: starEach es env := by
  cases e <;> first | rfl | cases h
theorem plainIx {e : Expr} (h : plain e = true) : PlainIx e := by
  intro o i
  cases e <;> first | rfl | cases h
theorem behind_plain {e : Expr} {op : CmpOp} (h : plain e = true) : behindInMarks op e = false := by
  cases e <;> first | rfl | cases h
theorem lastMarks_plain {e z : Expr} {op op' : CmpOp} (h : plain z = true) : lastMarks [op, op'] [e, z] = false := by
  show behindInMarks op' z = false
  exact behind_plain h
theorem folded_plain {e : Expr} {env : PySem.Env} (h : plain e = true) (x : Value) : foldedSetIterable e env x = pure x := by
  cases e <;> first | rfl | cases h
theorem attr_plain {e : Expr} {env : PySem.Env} {a : Str} {w : Sem Value} (h : (match e with | .Name .. => true | _ => false) = true) : attributeBase e a env w = w := by
  cases e <;> first | rfl | cases h
theorem back_star {es : List Expr} {env : PySem.Env} {pos : Pos} (h : ∀ e ∈ es, plain e = true) : (backTo pos (starEach es env)).any (·.1) = false := by
  induction es with
  | nil => rfl
  | cons e es ih =>
    rw [starEach_plain (h e (by simp))]
    show (false || (backTo pos (starEach es env)).any (·.1)) = false
    rw [ih fun x hx => h x (by simp [hx])]
    rfl
theorem chk_plain {nm : Nm} {c : E} {e : Expr} (h : chkE nm N c sc e = true) : plain e = true := by
  cases e with
  | Set _ _ _ => cases c <;> first | (simp only [chkE, Bool.false_eq_true] at h; done) | (simp only [chkE, wildB, plain, Bool.false_eq_true] at h; done) | (rename_i v; cases v <;> simp only [chkE, Bool.false_eq_true] at h; done)
  | Starred _ _ => cases c <;> first | (simp only [chkE, Bool.false_eq_true] at h; done) | (simp only [chkE, wildB, plain, Bool.false_eq_true] at h; done) | (rename_i v; cases v <;> simp only [chkE, Bool.false_eq_true] at h; done)
  | Slice _ _ _ _ => cases c <;> first | (simp only [chkE, Bool.false_eq_true] at h; done) | (simp only [chkE, wildB, plain, Bool.false_eq_true] at h; done) | (rename_i v; cases v <;> simp only [chkE, Bool.false_eq_true] at h; done)
  | SetComp _ _ _ _ => cases c <;> first | (simp only [chkE, Bool.false_eq_true] at h; done) | (simp only [chkE, wildB, plain, Bool.false_eq_true] at h; done) | (rename_i v; cases v <;> simp only [chkE, Bool.false_eq_true] at h; done)
  | DictComp _ _ _ _ _ => cases c <;> first | (simp only [chkE, Bool.false_eq_true] at h; done) | (simp only [chkE, wildB, plain, Bool.false_eq_true] at h; done) | (rename_i v; cases v <;> simp only [chkE, Bool.false_eq_true] at h; done)
  | NamedExpr _ _ _ => cases c <;> first | (simp only [chkE, Bool.false_eq_true] at h; done) | (simp only [chkE, wildB, plain, Bool.false_eq_true] at h; done) | (rename_i v; cases v <;> simp only [chkE, Bool.false_eq_true] at h; done)
  | _ => rfl
theorem chkL_plain {nm : Nm} : ∀ {c : E} {es : List Expr}, chkL nm N c sc es = true → ∀ e ∈ es, plain e = true := by
  intro c es
  induction es generalizing c with
  | nil => intro _ e he; simp at he
  | cons a es ih =>
    intro h e he
    cases c <;> simp only [chkL, Bool.false_eq_true, Bool.and_eq_true] at h
    rcases List.mem_cons.mp he with rfl | he
    · exact chk_plain h.1
    · exact ih h.2 e he
/-- a comprehension's block -/
theorem CG.blk (C : CG G lb n N sc W X) (s : Shared) (H : Hp) (scope : Scope) (hk : scope.kind = .function) (Ca : Addr) (cl : List (Str × Addr)) (fp : List Addr) : CG G lb n N (relS scope sc) (fun _ _ _ _ => False) (X.blk s H scope (compEnvC scope cl Ca X.env) fp) :=
  ⟨C.prog, C.w, C.K, C.mg, C.base, C.nm, C.nd, hk, by rw [← C.sc]; rfl, C.room, C.calm, fun u s' ⟨_, _, _, _, _, _, _, _, _, _, _, _, _, _, _, _, w⟩ => w.elim, PassesOwn.never, C.lam⟩
end
/-! ### the simple ones -/
section
variable {G : Glo} {lb : Bool} {n : Nat}
theorem ok_k (hG : GOk G) (v : PV) : OkE G lb n (.k v) := by
  intro N sc e X W C h
  simp only [chkE] at h
  split at h
  · exact PE.weak pe_non fun σ H Q ⟨α, ρ, m, re, me, q⟩ => Post.ok (v := PV.non) q (.d .non) me
  · have e := beq_iff_eq.mp h
    subst e
    exact PE.weak pe_bl fun σ H Q ⟨α, ρ, m, re, me, q⟩ => Post.ok (v := PV.bl _) q (.d (.bl _)) me
  · have e := of_decide_eq_true h
    subst e
    exact PE.weak pe_int fun σ H Q ⟨α, ρ, m, re, me, q⟩ => Post.ok (v := PV.int _) q (.d (.int _)) me
  · simp only [Bool.and_eq_true, decide_eq_true_eq] at h
    obtain ⟨⟨h1, h2⟩, h3⟩ := h
    subst h1
    exact PE.weak pe_str fun σ H Q ⟨α, ρ, m, re, me, q⟩ => Post.ok (v := PV.str _) q (.d (.str _ h2 (by rw [sizeLine_eq]; omega))) me
  · simp only [Bool.and_eq_true, decide_eq_true_eq] at h
    obtain ⟨h1, h2⟩ := h
    obtain ⟨g1, g2⟩ := gl_ok C h2
    obtain ⟨a, e1, e2, e3⟩ := hG.fn _ _ (by simpa [Glo.nms] using h1)
    exact PE.weak (pe_glob (v := .ref a) g1 (by rw [C.mg]; exact e2) rfl g2) fun σ H Q ⟨α, ρ, m, re, me, q⟩ => Post.ok (v := PV.fn _) q (.fn e1) me
  · cases h
theorem ok_loc (i : Nat) : OkE G lb n (.loc i) := by
  intro N sc e X W C h
  cases e <;> simp only [chkE, Bool.false_eq_true, Bool.and_eq_true, decide_eq_true_eq] at h
  obtain ⟨h1, h2⟩ := h
  obtain ⟨v1, v2, v3⟩ := vis_ok C h2
  refine PE.weak (pe_var (i := i) (by rw [C.nm]; exact h1) v1 v2 v3) fun σ H Q ⟨α, ρ, m, re, me, q⟩ => ?_
  simp only [evE] at q
  split at q
  · rename_i v e
    obtain ⟨x, r1, r2⟩ := re.at_ i v e
    exact ⟨x, r1, Post.ok q r2 me⟩
  · exact q.elim
theorem ok_glo (hG : GOk G) (i : Nat) : OkE G lb n (.glo i) := by
  intro N sc e X W C h
  cases e <;> simp only [chkE, Bool.false_eq_true, Bool.and_eq_true, decide_eq_true_eq] at h
  obtain ⟨h1, h2⟩ := h
  obtain ⟨g1, g2⟩ := gl_ok C h2
  obtain ⟨v, u, y, e1, e2, e3, e4⟩ := hG.con _ _ (by simpa [Glo.nms] using h1)
  refine PE.weak (pe_glob (v := y) g1 (by rw [C.mg]; exact e2) e3 g2) fun σ H Q ⟨α, ρ, m, re, me, q⟩ => ?_
  simp only [evE, e1, lft_some] at q
  exact Post.ok q (.d (e4 H)) me
theorem ok_bin {mu : Bool} {o : Op} {a b : E} (ha : OkE G lb n a) (hb : OkE G lb n b) : OkE G lb n (.bin mu o a b) := by
  intro N sc e X W C h
  cases e <;> simp only [chkE, Bool.false_eq_true, Bool.and_eq_true] at h
  obtain ⟨⟨h1, h2⟩, h3⟩ := h
  have e := opB_ok h1
  subst e
  have pa := ha N sc _ X W C h2
  have pb := hb N sc _ X W C h3
  refine ⟨fun pins s σ H Q I ⟨α, ρ, m, re, me, q⟩ => ?_⟩
  refine wpAny_BinOp (binT (R := fun x y H2 => ∃ α v w m, Rp G H2 α x v ∧ Rp G H2 α y w ∧ MemR G H2 α m ∧ Post G (Rp G) (binop mu o v w m) H2 α Q (wE W σ)) pa pb I ⟨α, ρ, m, re, me, ?_⟩ ?_)
  · simp only [evE] at q
    refine Post.bnd q fun v m1 x H1 α1 st rv me1 q1 => ⟨α1, ρ, m1, re.ext st.ext st.le, me1, Post.bnd q1 fun w m2 y H2 α2 st2 rw' me2 q2 => ⟨α2, v, w, m2, rv.ext st2.ext st2.le, rw', me2, q2⟩⟩
  · rintro v u s2 x y H2 I2 rx ry ⟨α, v', w', m, r1, r2, me, q⟩
    exact bin_all C.K o I2 rx ry r1 r2 me q
theorem ok_neg {a : E} (ha : OkE G lb n a) : OkE G lb n (.neg a) := by
  intro N sc e X W C h
  cases e with
  | UnaryOp op e pos =>
    cases op <;> simp only [chkE, Bool.false_eq_true] at h
    refine PE.weak (pe_un un_neg (ha N sc _ X W C h)) fun σ H Q ⟨α, ρ, m, re, me, q⟩ => ⟨α, ρ, m, re, me, ?_⟩
    simp only [evE] at q
    refine Post.bnd q fun v m1 x H1 α1 st rv me1 q1 => ?_
    split at q1
    · have e := fz_int rv
      subst e
      exact ⟨_, rfl, Post.ok (v := PV.int _) q1 (.d (.int _)) me1⟩
    · exact q1.elim
  | _ => simp only [chkE, Bool.false_eq_true] at h
theorem ok_not {a : E} (ha : OkE G lb n a) : OkE G lb n (.not a) := by
  intro N sc e X W C h
  cases e with
  | UnaryOp op e pos =>
    cases op <;> simp only [chkE, Bool.false_eq_true] at h
    have pa := ha N sc _ X W C h
    refine ⟨fun pins s σ H Q I ⟨α, ρ, m, re, me, q⟩ => ?_⟩
    refine UnaryOp_ (thn (pa.run pins s σ H (fun x H1 => ∃ b, TruV G.K x H1 b ∧ Q (.bl (!b)) H1) I ⟨α, ρ, m, re, me, ?_⟩) fun v s1 ⟨x, H1, I1, r1, b, t, q1⟩ => not_of ?_)
    · simp only [evE] at q
      refine Post.bnd q fun v m1 x H1 α1 st rv me1 q1 => ?_
      obtain ⟨w, e1, q2⟩ := Post.lftv q1
      obtain ⟨b, e2, rfl⟩ := Option.map_eq_some_iff.mp e1
      exact ⟨b, truth_ok rv me1 e2, Post.ok (v := PV.bl _) q2 (.d (.bl _)) me1⟩
    · rw [← C.K] at t
      exact thn (tru_ok pins s1 σ H1 x v (fun k H2 => Q (.bl (!k)) H2) I1 r1 ⟨b, t, q1⟩) fun c s2 ⟨H2, I2, q2⟩ => ⟨.bl (!c), H2, I2, rfl, q2⟩
  | _ => simp only [chkE, Bool.false_eq_true] at h
theorem ok_and {a b : E} (ha : OkE G lb n a) (hb : OkE G lb n b) : OkE G lb n (.and a b) := by
  intro N sc e X W C h
  cases e with
  | BoolOp op vs pos =>
    cases op with
    | Or => simp only [chkE, Bool.false_eq_true] at h
    | And =>
      rcases vs with _ | ⟨x, _ | ⟨y, r⟩⟩
      · simp only [chkE, Bool.false_eq_true] at h
      · simp only [chkE, Bool.false_eq_true] at h
      · simp only [chkE, Bool.and_eq_true] at h
        obtain ⟨h1, h2⟩ := h
        have pa := ha N sc _ X W C h1
        have pb : PE X (.BoolOp .And (y :: r) pos) (tE G n W b) := by
          cases r with
          | nil => exact pe_one (hb N sc _ X W C h2)
          | cons z r => exact hb N sc _ X W C h2
        refine PE.weak (pe_and pa pb) fun σ H Q ⟨α, ρ, m, re, me, q⟩ => ⟨α, ρ, m, re, me, ?_⟩
        simp only [evE] at q
        refine Post.bnd q fun v m1 x H1 α1 st rv me1 q1 => ?_
        split at q1
        · have e := fz_bl rv
          subst e
          exact ⟨true, rfl, ⟨α1, ρ, m1, re.ext st.ext st.le, me1, q1⟩⟩
        · have e := fz_bl rv
          subst e
          exact ⟨false, rfl, Post.ok (v := PV.bl false) q1 (.d (.bl false)) me1⟩
        · exact q1.elim
  | _ => simp only [chkE, Bool.false_eq_true] at h
theorem ok_or {a b : E} (ha : OkE G lb n a) (hb : OkE G lb n b) : OkE G lb n (.or a b) := by
  intro N sc e X W C h
  cases e with
  | BoolOp op vs pos =>
    cases op with
    | And => simp only [chkE, Bool.false_eq_true] at h
    | Or =>
      rcases vs with _ | ⟨x, _ | ⟨y, r⟩⟩
      · simp only [chkE, Bool.false_eq_true] at h
      · simp only [chkE, Bool.false_eq_true] at h
      · simp only [chkE, Bool.and_eq_true] at h
        obtain ⟨h1, h2⟩ := h
        have pa := ha N sc _ X W C h1
        have pb : PE X (.BoolOp .Or (y :: r) pos) (tE G n W b) := by
          cases r with
          | nil => exact pe_one (hb N sc _ X W C h2)
          | cons z r => exact hb N sc _ X W C h2
        refine PE.weak (pe_or pa pb) fun σ H Q ⟨α, ρ, m, re, me, q⟩ => ⟨α, ρ, m, re, me, ?_⟩
        simp only [evE] at q
        refine Post.bnd q fun v m1 x H1 α1 st rv me1 q1 => ?_
        split at q1
        · have e := fz_bl rv
          subst e
          exact ⟨true, rfl, Post.ok (v := PV.bl true) q1 (.d (.bl true)) me1⟩
        · have e := fz_bl rv
          subst e
          exact ⟨false, rfl, ⟨α1, ρ, m1, re.ext st.ext st.le, me1, q1⟩⟩
        · exact q1.elim
  | _ => simp only [chkE, Bool.false_eq_true] at h
end
end Pv
namespace Pv
open PySem PySem.Spec PyProof.Rows L2
section
variable {G : Glo} {lb : Bool} {n : Nat}
/-! ### comparisons -/
def rC (G : Glo) (f : Mem → PV → PV → Option Bool) : R2 := fun x y H Q => ∃ α a b m c, Rp G H α x a ∧ Rp G H α y b ∧ MemR G H α m ∧ f m a b = some c ∧ Q (.bl c) H
theorem Cmp.op {X : Cx} {op : CmpOp} {f : Mem → PV → PV → Option Bool} (h : Cmp G X op f) : OpR X (compareOp op) (rC G f) := by
  intro pins s σ H x y v u Q I rx ry ⟨α, a, b, m, c, ra, rb, me, e, q⟩
  exact h pins s σ H x y v u α a b m c Q I rx ry ra rb me e q
theorem ok_cmp {c : Cm} {a b : E} (ha : OkE G lb n a) (hb : OkE G lb n b) : OkE G lb n (.cmp c a b) := by
  intro N sc e X W C h
  cases e with
  | Compare l ops rs pos =>
    rcases ops with _ | ⟨op, _ | ⟨op', ops⟩⟩ <;> rcases rs with _ | ⟨r, _ | ⟨r', rs⟩⟩ <;> simp only [chkE, Bool.false_eq_true, Bool.and_eq_true] at h
    obtain ⟨⟨h1, h2⟩, h3⟩ := h
    have e := cmB_ok h1
    subst e
    refine PE.weak (pe_cmpR (Cmp.op (cmp_all C.room C.K c)) (ha N sc _ X W C h2) (hb N sc _ X W C h3) (behind_plain (chk_plain h3))) fun σ H Q ⟨α, ρ, m, re, me, q⟩ => ⟨α, ρ, m, re, me, ?_⟩
    simp only [evE] at q
    refine Post.bnd q fun v m1 x H1 α1 st rv me1 q1 => ⟨α1, ρ, m1, re.ext st.ext st.le, me1, Post.bnd q1 fun w m2 y H2 α2 st2 rw' me2 q2 => ?_⟩
    obtain ⟨b, e, q3⟩ := Post.lftb q2 me2
    exact ⟨α2, v, w, m2, b, rv.ext st2.ext st2.le, rw', me2, e, q3⟩
  | _ => simp only [chkE, Bool.false_eq_true] at h
theorem okT_cmp {c : Cm} {a b : E} (ha : OkE G lb n a) (hb : OkE G lb n b) : OkT G lb n (.cmp c a b) := by
  intro N sc e X W C h
  cases e with
  | Compare l ops rs pos =>
    rcases ops with _ | ⟨op, _ | ⟨op', ops⟩⟩ <;> rcases rs with _ | ⟨r, _ | ⟨r', rs⟩⟩ <;> simp only [chkE, Bool.false_eq_true, Bool.and_eq_true] at h
    obtain ⟨⟨h1, h2⟩, h3⟩ := h
    have e := cmB_ok h1
    subst e
    refine PT.weak (pt_cmpR (Cmp.op (cmp_all C.room C.K c)) (ha N sc _ X W C h2) (hb N sc _ X W C h3) (behind_plain (chk_plain h3))) fun σ H Q ⟨α, ρ, m, re, me, q⟩ => ⟨α, ρ, m, re, me, ?_⟩
    simp only [evE] at q
    have q := q
    rw [show ∀ (r : R PV), bnd (bnd r fun x m => bnd (evE G.pr.con (run G.pr n) b ρ m) fun y m => lft (Option.map PV.bl (cmpop c m x y)) m) (fun v m => tstB m v) =
      bnd r fun x m => bnd (evE G.pr.con (run G.pr n) b ρ m) fun y m => bnd (lft (Option.map PV.bl (cmpop c m x y)) m) (fun v m => tstB m v) from fun r => by
        cases r <;> first | rfl | (simp only [bnd_ok]; generalize evE G.pr.con (run G.pr n) b ρ _ = z; cases z <;> rfl)] at q
    refine Post.bnd q fun v m1 x H1 α1 st rv me1 q1 => ⟨α1, ρ, m1, re.ext st.ext st.le, me1, Post.bnd q1 fun w m2 y H2 α2 st2 rw' me2 q2 => ?_⟩
    cases e : cmpop c m2 v w with
    | none => rw [e] at q2; exact q2.elim
    | some b =>
      rw [e] at q2
      exact ⟨α2, v, w, m2, b, rv.ext st2.ext st2.le, rw', me2, e, b, rfl, Post.ok (v := b) q2 rfl me2⟩
  | _ => simp only [chkE, Bool.false_eq_true] at h
theorem ok_cmp2 {c d : Cm} {a b z : E} (ha : OkE G lb n a) (hb : OkE G lb n b) (hz : OkE G lb n z) : OkE G lb n (.cmp2 c d a b z) := by
  intro N sc e X W C h
  cases e with
  | Compare l ops rs pos =>
    rcases ops with _ | ⟨op, _ | ⟨op', _ | ⟨op2, ops⟩⟩⟩ <;> rcases rs with _ | ⟨r, _ | ⟨r', _ | ⟨r2, rs⟩⟩⟩ <;> simp only [chkE, Bool.false_eq_true, Bool.and_eq_true] at h
    obtain ⟨⟨⟨⟨h1, h1'⟩, h2⟩, h3⟩, h4⟩ := h
    have e := cmB_ok h1
    have e' := cmB_ok h1'
    subst e e'
    refine PE.weak (pe_chain (Cmp.op (cmp_all C.room C.K c)) (Cmp.op (cmp_all C.room C.K d)) (ha N sc _ X W C h2) (hb N sc _ X W C h3) (hz N sc _ X W C h4) (lastMarks_plain (chk_plain h4))) fun σ H Q ⟨α, ρ, m, re, me, q⟩ => ⟨α, ρ, m, re, me, ?_⟩
    simp only [evE] at q
    refine Post.bnd q fun v m1 x H1 α1 st rv me1 q1 => ⟨α1, ρ, m1, re.ext st.ext st.le, me1, Post.bnd q1 fun w m2 y H2 α2 st2 rw' me2 q2 => ?_⟩
    split at q2
    · rename_i e
      refine ⟨α2, v, w, m2, true, rv.ext st2.ext st2.le, rw', me2, e, true, rfl, ?_⟩
      rw [if_pos rfl]
      refine ⟨α2, ρ, m2, (re.ext st.ext st.le).ext st2.ext st2.le, me2, Post.bnd q2 fun u m3 y3 H3 α3 st3 ru me3 q3 => ?_⟩
      obtain ⟨b, e3, q4⟩ := Post.lftb q3 me3
      exact ⟨α3, w, u, m3, b, rw'.ext st3.ext st3.le, ru, me3, e3, q4⟩
    · rename_i e
      refine ⟨α2, v, w, m2, false, rv.ext st2.ext st2.le, rw', me2, e, false, rfl, ?_⟩
      rw [if_neg Bool.false_ne_true]
      exact Post.ok (v := PV.bl false) q2 (.d (.bl false)) me2
    · exact q2.elim
  | _ => simp only [chkE, Bool.false_eq_true] at h
/-- a test by its value -/
theorem okT_of {c : E} (h : OkE G lb n c) (hp : ∀ (N : List Str) (sc : Scope) (e : Expr) (env : PySem.Env), chkE G.nms N c sc e = true → ∀ whole, isTrue e env whole = (do let v ← whole; standAt e.pos; holding [v] (truthy v))) : OkT G lb n c := by
  intro N sc e X W C hc
  refine PT.weak (pt_truth (h N sc e X W C hc) (hp N sc e _ hc)) fun σ H Q ⟨α, ρ, m, re, me, q⟩ => ⟨α, ρ, m, re, me, Post.bnd q fun v m1 x H1 α1 st rv me1 q1 => ?_⟩
  unfold tstB at q1
  cases e : truth m1 v with
  | none => rw [e] at q1; exact q1.elim
  | some b =>
    rw [e] at q1
    rw [C.K]
    exact ⟨b, truth_ok rv me1 e, Post.ok (v := b) q1 rfl me1⟩
/-- a chain as a test -/
theorem okT_cmp2 {c d : Cm} {a b z : E} (ha : OkE G lb n a) (hb : OkE G lb n b) (hz : OkE G lb n z) : OkT G lb n (.cmp2 c d a b z) := by
  intro N sc e X W C h
  cases e with
  | Compare l ops rs pos =>
    rcases ops with _ | ⟨op, _ | ⟨op', _ | ⟨op2, ops⟩⟩⟩ <;> rcases rs with _ | ⟨r, _ | ⟨r', _ | ⟨r2, rs⟩⟩⟩ <;> simp only [chkE, Bool.false_eq_true, Bool.and_eq_true] at h
    obtain ⟨⟨⟨⟨h1, h1'⟩, h2⟩, h3⟩, h4⟩ := h
    have e := cmB_ok h1
    have e' := cmB_ok h1'
    subst e e'
    refine PT.weak (pt_chain (Cmp.op (cmp_all C.room C.K c)) (Cmp.op (cmp_all C.room C.K d)) (ha N sc _ X W C h2) (hb N sc _ X W C h3) (hz N sc _ X W C h4) (lastMarks_plain (chk_plain h4))) fun σ H Q ⟨α, ρ, m, re, me, q⟩ => ⟨α, ρ, m, re, me, ?_⟩
    simp only [evE] at q
    have q := q
    rw [show ∀ (r : R PV) (g : PV → PV → Mem → R PV), bnd (bnd r fun x m => bnd (evE G.pr.con (run G.pr n) b ρ m) fun y m => g x y m) (fun v m => tstB m v) =
      bnd r fun x m => bnd (evE G.pr.con (run G.pr n) b ρ m) fun y m => bnd (g x y m) (fun v m => tstB m v) from fun r g => by
        cases r <;> first | rfl | (simp only [bnd_ok]; generalize evE G.pr.con (run G.pr n) b ρ _ = z; cases z <;> rfl)] at q
    refine Post.bnd q fun v m1 x H1 α1 st rv me1 q1 => ⟨α1, ρ, m1, re.ext st.ext st.le, me1, Post.bnd q1 fun w m2 y H2 α2 st2 rw' me2 q2 => ?_⟩
    cases e : cmpop c m2 v w with
    | none => rw [e] at q2; exact q2.elim
    | some k =>
      rw [e] at q2
      refine ⟨α2, v, w, m2, k, rv.ext st2.ext st2.le, rw', me2, e, k, rfl, ?_⟩
      cases k with
      | true =>
        rw [if_pos rfl]
        have q2 : Post G (fun _ _ (b : Bool) (b' : Bool) => b = b') (bnd (bnd (evE G.pr.con (run G.pr n) z ρ m2) fun z m => lft (Option.map PV.bl (cmpop d m w z)) m) fun v m => tstB m v) H2 α2 Q (wE W σ) := q2
        rw [show ∀ (r : R PV), bnd (bnd r fun z m => lft (Option.map PV.bl (cmpop d m w z)) m) (fun v m => tstB m v) = bnd r fun z m => bnd (lft (Option.map PV.bl (cmpop d m w z)) m) (fun v m => tstB m v) from fun r => by cases r <;> rfl] at q2
        refine ⟨α2, ρ, m2, (re.ext st.ext st.le).ext st2.ext st2.le, me2, Post.bnd q2 fun u m3 y3 H3 α3 st3 ru me3 q3 => ?_⟩
        cases e3 : cmpop d m3 w u with
        | none => rw [e3] at q3; exact q3.elim
        | some b =>
          rw [e3] at q3
          exact ⟨α3, w, u, m3, b, rw'.ext st3.ext st3.le, ru, me3, e3, b, rfl, Post.ok (v := b) q3 rfl me3⟩
      | false =>
        rw [if_neg Bool.false_ne_true]
        exact ⟨false, rfl, Post.ok (v := false) q2 rfl me2⟩
  | _ => simp only [chkE, Bool.false_eq_true] at h
theorem okT_not {a : E} (ha : OkT G lb n a) : OkT G lb n (.not a) := by
  intro N sc e X W C h
  cases e with
  | UnaryOp op e pos =>
    cases op <;> simp only [chkE, Bool.false_eq_true] at h
    refine PT.weak (pt_not (ha N sc _ X W C h)) fun σ H Q ⟨α, ρ, m, re, me, q⟩ => ⟨α, ρ, m, re, me, ?_⟩
    simp only [evE] at q
    generalize evE G.pr.con (run G.pr n) a ρ m = r at q ⊢
    cases r with
    | no => exact q
    | exc x m => exact q
    | ok v m1 =>
      simp only [bnd_ok] at q ⊢
      cases e : truth m1 v with
      | none => rw [e] at q; exact q.elim
      | some b =>
        rw [e] at q
        unfold tstB
        rw [e]
        exact fun x H' α' st rv me' => q (!x) H' α' st (by rw [rv]) me'
  | _ => simp only [chkE, Bool.false_eq_true] at h
/-- and, or: tests whatever their 'whole' is -/
def OkW (G : Glo) (lb : Bool) (n : Nat) (c : E) : Prop := ∀ (N : List Str) (sc : Scope) (op : BoolOp) (vs : List Expr) (pos : Pos) (X : Cx) (W : WX), CG G lb n N sc W X → chkE G.nms N c sc (.BoolOp op vs pos) = true → PW X (.BoolOp op vs pos) (tT G n W c)
theorem PW.weak {X : Cx} {e : Expr} {t t' : TT} (h : PW X e t) (k : ∀ σ H Q, t' σ H Q → t σ H Q) : PW X e t' := ⟨fun w pins s σ H Q I q => h.run w pins s σ H Q I (k _ _ _ q)⟩
/-- a part that is no and, or -/
theorem pw_last {X : Cx} {op : BoolOp} {y : Expr} {pos : Pos} {t : TT} (h : PT X y t) : PW X (.BoolOp op [y] pos) t := by
  cases op with
  | And => exact pw_and1 h
  | Or => exact pw_or1 h
theorem okW_and {a b : E} (ha : OkT G lb n a) (hb : OkT G lb n b) (hw : OkW G lb n b) : OkW G lb n (.and a b) := by
  intro N sc op vs pos X W C h
  cases op with
  | Or => simp only [chkE, Bool.false_eq_true] at h
  | And =>
    rcases vs with _ | ⟨x, _ | ⟨y, r⟩⟩
    · simp only [chkE, Bool.false_eq_true] at h
    · simp only [chkE, Bool.false_eq_true] at h
    · simp only [chkE, Bool.and_eq_true] at h
      obtain ⟨h1, h2⟩ := h
      have pa := ha N sc _ X W C h1
      have pb : PW X (.BoolOp .And (y :: r) pos) (tT G n W b) := by
        cases r with
        | nil => exact pw_last (hb N sc _ X W C h2)
        | cons z r => exact hw N sc _ _ _ X W C h2
      refine PW.weak (pw_and pa pb) fun σ H Q ⟨α, ρ, m, re, me, q⟩ => ⟨α, ρ, m, re, me, ?_⟩
      simp only [evE] at q
      generalize evE G.pr.con (run G.pr n) a ρ m = r at q ⊢
      cases r with
      | no => exact q
      | exc x m => exact q
      | ok v m1 =>
        simp only [bnd_ok] at q ⊢
        split at q
        · intro x H1 α1 st rv me1
          subst rv
          rw [if_pos rfl]
          exact ⟨α1, ρ, m1, re.ext st.ext st.le, me1, q.base st⟩
        · intro x H1 α1 st rv me1
          subst rv
          rw [if_neg Bool.false_ne_true]
          exact q false H1 α1 st rfl me1
        · exact q.elim
theorem okW_or {a b : E} (ha : OkT G lb n a) (hb : OkT G lb n b) (hw : OkW G lb n b) : OkW G lb n (.or a b) := by
  intro N sc op vs pos X W C h
  cases op with
  | And => simp only [chkE, Bool.false_eq_true] at h
  | Or =>
    rcases vs with _ | ⟨x, _ | ⟨y, r⟩⟩
    · simp only [chkE, Bool.false_eq_true] at h
    · simp only [chkE, Bool.false_eq_true] at h
    · simp only [chkE, Bool.and_eq_true] at h
      obtain ⟨h1, h2⟩ := h
      have pa := ha N sc _ X W C h1
      have pb : PW X (.BoolOp .Or (y :: r) pos) (tT G n W b) := by
        cases r with
        | nil => exact pw_last (hb N sc _ X W C h2)
        | cons z r => exact hw N sc _ _ _ X W C h2
      refine PW.weak (pw_or pa pb) fun σ H Q ⟨α, ρ, m, re, me, q⟩ => ⟨α, ρ, m, re, me, ?_⟩
      simp only [evE] at q
      generalize evE G.pr.con (run G.pr n) a ρ m = r at q ⊢
      cases r with
      | no => exact q
      | exc x m => exact q
      | ok v m1 =>
        simp only [bnd_ok] at q ⊢
        split at q
        · intro x H1 α1 st rv me1
          subst rv
          rw [if_pos rfl]
          exact q true H1 α1 st rfl me1
        · intro x H1 α1 st rv me1
          subst rv
          rw [if_neg Bool.false_ne_true]
          exact ⟨α1, ρ, m1, re.ext st.ext st.le, me1, q.base st⟩
        · exact q.elim
theorem okT_w {c : E} (h : OkW G lb n c) (hb : ∀ (N : List Str) (sc : Scope) (e : Expr), chkE G.nms N c sc e = true → ∃ op vs pos, e = .BoolOp op vs pos) : OkT G lb n c := by
  intro N sc e X W C hc
  obtain ⟨op, vs, pos, rfl⟩ := hb N sc e hc
  exact (h N sc op vs pos X W C hc).pt
theorem okW_no {c : E} (h : ∀ (N : List Str) (sc : Scope) (op : BoolOp) (vs : List Expr) (pos : Pos), chkE G.nms N c sc (.BoolOp op vs pos) = true → False) : OkW G lb n c := fun N sc op vs pos X W C hc => (h N sc op vs pos hc).elim
theorem ok_ite {c a b : E} (hc : OkT G lb n c) (ha : OkE G lb n a) (hb : OkE G lb n b) : OkE G lb n (.ite c a b) := by
  intro N sc e X W C h
  cases e <;> simp only [chkE, Bool.false_eq_true, Bool.and_eq_true] at h
  obtain ⟨⟨h1, h2⟩, h3⟩ := h
  refine PE.weak (pe_ifExp (hc N sc _ X W C h1) (ha N sc _ X W C h2) (hb N sc _ X W C h3)) fun σ H Q ⟨α, ρ, m, re, me, q⟩ => ⟨α, ρ, m, re, me, ?_⟩
  simp only [evE] at q
  generalize evE G.pr.con (run G.pr n) c ρ m = r at q ⊢
  cases r with
  | no => exact q
  | exc x m => exact q
  | ok v m1 =>
    simp only [bnd_ok] at q ⊢
    unfold tstB
    split at q
    · rename_i e
      rw [e]
      intro x H1 α1 st rv me1
      subst rv
      rw [if_pos rfl]
      exact ⟨α1, ρ, m1, re.ext st.ext st.le, me1, q.base st⟩
    · rename_i e
      rw [e]
      intro x H1 α1 st rv me1
      subst rv
      rw [if_neg Bool.false_ne_true]
      exact ⟨α1, ρ, m1, re.ext st.ext st.le, me1, q.base st⟩
    · exact q.elim
/-! ### lists of expressions -/
theorem okL_nil : OkL G lb n .nil := by
  intro N sc es X W C h
  cases es with
  | nil => exact PA.weak pa_nil fun σ H Q ⟨α, ρ, m, re, me, q⟩ => Post.ok (v := PV.tup []) (rel := fun H α xs r => RpAll G H α xs (unl r)) q .nil me
  | cons e es => simp only [chkL, Bool.false_eq_true] at h
theorem okL_cons {a l : E} (ha : OkE G lb n a) (hl : OkL G lb n l) : OkL G lb n (.cons a l) := by
  intro N sc es X W C h
  cases es with
  | nil => simp only [chkL, Bool.false_eq_true] at h
  | cons e es =>
    simp only [chkL, Bool.and_eq_true] at h
    obtain ⟨h1, h2⟩ := h
    refine PA.weak (pa_cons (ha N sc _ X W C h1) (hl N sc _ X W C h2) (starEach_plain (chk_plain h1))) fun σ H Q ⟨α, ρ, m, re, me, q⟩ => ⟨α, ρ, m, re, me, ?_⟩
    simp only [evE] at q
    refine Post.bnd q fun v m1 x H1 α1 st rv me1 q1 => ⟨α1, ρ, m1, re.ext st.ext st.le, me1, Post.bnd q1 fun w m2 xs H2 α2 st2 rw' me2 q2 => ?_⟩
    exact Post.ok (v := PV.tup (v :: unl w)) (rel := fun H α xs r => RpAll G H α xs (unl r)) q2 (.cons (rv.ext st2.ext st2.le) rw') me2
theorem okL_none {c : E} (h : ∀ (N : List Str) (sc : Scope) (es : List Expr), chkL G.nms N c sc es = true → False) : OkL G lb n c := fun N sc es X W C hc => (h N sc es hc).elim
theorem Post.len {β γ : Type} {rel : Hp → Al → β → γ → Prop} {r : R γ} {H : Hp} {α : Al} {Q : β → Hp → Prop} {E : EW} (h : Post G rel r H α Q E) : r ≠ .no := by
  rintro rfl; exact h

theorem ok_tup {l : E} (hl : OkL G lb n l) : OkE G lb n (.tup l) := by
  intro N sc e X W C h
  cases e <;> simp only [chkE, Bool.false_eq_true] at h
  refine PE.weak (pe_tup (hl N sc _ X W C h)) fun σ H Q ⟨α, ρ, m, re, me, q⟩ => ⟨α, ρ, m, re, me, ?_⟩
  simp only [evE] at q
  refine Post.bnd q fun v m1 xs H1 α1 st rv me1 q1 => ?_
  split at q1
  · rename_i hd
    simp only [Bool.and_eq_true, decide_eq_true_eq] at hd
    have hz : xs.length ≤ sizeLine := by rw [Paired.length rv]; exact small_size hd.2
    have f := RpAll.fz rv hd.1
    exact ⟨hz, fun p hp => q1 (.ref p) _ α1 (Stp.laid hp) (.d (.tup (SqT.of upd_same) hz (f.ext (Ext.new hp)))) (me1.upd hp)⟩
  · exact q1.elim
theorem ok_lst {mu : Bool} {l : E} (hl : OkL G lb n l) : OkE G lb n (.lst mu l) := by
  intro N sc e X W C h
  cases e <;> simp only [chkE, Bool.false_eq_true] at h
  refine PE.weak (PE.lk (pe_lst (hl N sc _ X W C h))) fun σ H Q ⟨α, ρ, m, re, me, q⟩ => ⟨α, ρ, m, re, me, ?_⟩
  simp only [evE] at q
  refine Post.bnd q fun v m1 xs H1 α1 st rv me1 q1 => ?_
  split at q1
  · rename_i hd
    have hz : xs.length ≤ sizeLine := by rw [Paired.length rv]; exact small_size hd
    exact ⟨hz, fun p hp => LK.mk q1 hp rv hz me1⟩
  · exact q1.elim
end
end Pv
namespace Pv
open PySem PySem.Spec PyProof.Rows L2
section
variable {G : Glo} {lb : Bool} {n : Nat}
/-! ### items, slices -/
theorem ok_ix {a b : E} (ha : OkE G lb n a) (hb : OkE G lb n b) : OkE G lb n (.ix a b) := by
  intro N sc e X W C h
  cases e <;> simp only [chkE, Bool.false_eq_true, Bool.and_eq_true] at h
  obtain ⟨h2, h3⟩ := h
  refine PE.weak (pe_ix ix_seq (ha N sc _ X W C h2) (hb N sc _ X W C h3) (plainIx (chk_plain h3))) fun σ H Q ⟨α, ρ, m, re, me, q⟩ => ⟨α, ρ, m, re, me, ?_⟩
  simp only [evE] at q
  exact Post.bnd q fun v m1 x H1 α1 st rv me1 q1 => ⟨α1, ρ, m1, re.ext st.ext st.le, me1, Post.bnd q1 fun w m2 y H2 α2 st2 rw' me2 q2 => item_ok C.K (rv.ext st2.ext st2.le) rw' me2 q2⟩
def partV : V → Option Int → Prop
  | .non, none => True
  | .int i, some j => i = j
  | _, _ => False
def tPartO (t : TE) : TO := fun σ H Q => t σ H fun x H1 => ∃ o, partV x o ∧ Q o H1
theorem po_any {X : Cx} {e : Expr} {te : TE} (h : PE X e te) : PO X (some e) (tPartO te) := by
  refine ⟨fun pins s σ H Q I hw => ?_⟩
  rw [evalPart_some]
  refine thn (h.run pins s σ H _ I hw) fun u s1 ⟨x, H1, I1, r1, o, p, q1⟩ => ?_
  cases x <;> cases o <;> try exact p.elim
  · cases r1
    exact ⟨none, H1, I1, .none, q1⟩
  · obtain ⟨t, rfl⟩ := r1
    subst p
    exact ⟨some _, H1, I1, .int _ t, q1⟩
theorem optI_part {H : Hp} {α : Al} {x : V} {v : PV} {o : Option Int} (r : Rp G H α x v) (e : optI v = some o) : partV x o := by
  unfold optI at e
  split at e
  · cases e; have := fz_non r; subst this; exact trivial
  · split at e
    · cases e; have := fz_int r; subst this; exact rfl
    · cases e
  · cases e
theorem okO {c : E} {N : List Str} {sc : Scope} {l : Option Expr} (h : (match c, l with
    | .k .non, none => true
    | lo, some l => chkE G.nms N lo sc l
    | _, _ => false) = true) (hc : OkE G lb n c) {X : Cx} {W : WX} (C : CG G lb n N sc W X) : PO X l (tPartO (tE G n W c)) := by
  split at h
  · refine ⟨fun pins s σ H Q I ⟨α, ρ, m, re, me, q⟩ => po_none.run pins s σ H Q I ?_⟩
    obtain ⟨o, p, q⟩ := Post.ok (v := PV.non) q (.d .non) me
    cases o with
    | none => exact q
    | some _ => exact p.elim
  · exact po_any (hc N sc _ X W C h)
  · cases h
theorem ok_sl {a b d : E} (ha : OkE G lb n a) (hb : OkE G lb n b) (hd : OkE G lb n d) : OkE G lb n (.sl a b d) := by
  intro N sc e X W C h
  cases e with
  | Subscript x y p =>
    cases y with
    | Slice l hi st p2 =>
      cases st with
      | some _ => simp only [chkE, Bool.false_eq_true] at h
      | none =>
        unfold chkE at h
        simp only [Bool.and_eq_true] at h
        obtain ⟨⟨h1, h2⟩, h3⟩ := h
        refine PE.weak (PE.lk (pe_slice sl_any (ha N sc _ X W C h1) (okO h2 hb C) (okO h3 hd C))) fun σ H Q ⟨α, ρ, m, re, me, q⟩ => ⟨α, ρ, m, re, me, ?_⟩
        simp only [evE] at q
        refine Post.bnd q fun v m1 x H1 α1 st1 rv me1 q1 => ⟨α1, ρ, m1, re.ext st1.ext st1.le, me1, Post.bnd q1 fun w m2 y H2 α2 st2 rw' me2 q2 => ?_⟩
        cases e1 : optI w with
        | none => rw [e1] at q2; exact q2.elim
        | some lo =>
          rw [e1] at q2
          have q2 := q2
          simp only [Option.isSome_some, if_true] at q2
          refine ⟨lo, optI_part rw' e1, α2, ρ, m2, (re.ext st1.ext st1.le).ext st2.ext st2.le, me2, Post.bnd q2 fun z m3 y3 H3 α3 st3 rz me3 q3 => ?_⟩
          cases e2 : optI z with
          | none =>
            have q3 := q3
            unfold slice at q3
            rw [e1, e2] at q3
            exact q3.elim
          | some hi => exact ⟨hi, optI_part rz e2, slice_ok C.K ((rv.ext st2.ext st2.le).ext st3.ext st3.le) me3 e1 e2 q3⟩
    | _ => simp only [chkE, Bool.false_eq_true] at h
  | _ => simp only [chkE, Bool.false_eq_true] at h
/-! ### calls -/
theorem run_no {P : Prg} : ∀ {k f : Nat} {l : List PV} {m : Mem}, run P k f l m ≠ .no → ∃ F, P.fns[f]? = some F ∧ l.length = F.np := by
  intro k f l m h
  cases k with
  | zero => exact absurd rfl h
  | succ k =>
    unfold run at h
    split at h
    · rename_i F e
      split at h
      · rename_i e2; exact ⟨F, e, e2⟩
      · exact absurd rfl h
    · exact absurd rfl h
theorem call_def {X : Cx} {N : List Str} {sc : Scope} {W : WX} (hF : FnsOk G n) (C : CG G lb n N sc W X) {pins : List (Addr × Obj)} {s : Shared} {σ : L2.St} {H : Hp} {α : Al} {m : Mem} {f : Nat} {a : Addr} {us : List Value} {vs : List V} {l : List PV} {Q : VK}
    (hf : G.fa[f]? = some a) (I : L2.Inv X pins σ H s) (r : Vals vs us) (ra : RpAll G H α vs l) (me : MemR G H α m) (q : Post G (Rp G) (run G.pr n f l m) H α Q (wE W σ)) : wpAny (model X.prog X.w) X.A (call (.ref a) us) (EP X pins σ Q) X.xe s := by
  obtain ⟨F, fd, ps, e1, e2, e3, e4, e5⟩ := hF f a hf
  obtain ⟨F', e6, e7⟩ := run_no q.len
  rw [e1] at e6
  cases e6
  have fo : FnOk X.prog X.w X.K X.mg X.base (L2.CX X.prog X.w) (3 * n + 5) a fd ps (spF G n f F.np) := by rw [C.prog, C.w, C.K, C.mg, C.base]; exact e3
  refine run_fnSD (dvs := []) (ds := []) (E := fun σ => WE W σ) fo C.room (by rw [C.K]; exact e4) .nil (passAt C.tk σ) I r ?_
  rw [List.append_nil]
  exact ⟨by rw [Paired.length ra, e7], α, m, l, ra, me, q⟩
theorem callWith_def {X : Cx} {N : List Str} {sc : Scope} {W : WX} (hF : FnsOk G n) (C : CG G lb n N sc W X) {l : E} {es : List Expr} {pins : List (Addr × Obj)} {s : Shared} {σ : L2.St} {H : Hp} {f : Nat} {a : Addr} {Q : VK} {pos : Pos} (hl : OkL G lb n l) (hc : chkL G.nms N l sc es = true)
    (hf : G.fa[f]? = some a) (I : L2.Inv X pins σ H s) {α : Al} {ρ : Env} {m : Mem} (re : EnvR G H α ρ σ) (me : MemR G H α m) (q : Post G (Rp G) (bnd (evE G.pr.con (run G.pr n) l ρ m) fun r m => run G.pr n f (unl r) m) H α Q (wE W σ)) :
    wpAny (model X.prog X.w) X.A (callWith pos (.ref a) [] (backTo pos (starEach es X.env)) (backToKw pos (keywordEach [] X.env))) (EP X pins σ Q) X.xe s := by
  obtain ⟨F, fd, ps, e1, e2, e3, e4, hk⟩ := hF f a hf
  have hk : PySem.W.keepIn X.K (.ref a) = true := by rw [C.K]; exact hk
  have pa := hl N sc es X W C hc
  cases es with
  | nil =>
    cases l <;> simp only [chkL, Bool.false_eq_true] at hc
    exact PySem.W.callWith_K0 I.kIn hk (call_def (vs := []) (l := []) hF C hf I .nil .nil me q)
  | cons e es =>
    have hp := chkL_plain hc
    refine PySem.W.callWith_K (h₀ := X.base) I.ok.mod.kin hk (thn (pa.run pos pins s σ H (fun xs H1 => ∃ α m l, RpAll G H1 α xs l ∧ MemR G H1 α m ∧ Post G (Rp G) (run G.pr n f l m) H1 α Q (wE W σ)) I ⟨α, ρ, m, re, me, ?_⟩) fun us s1 ⟨vs, H1, I1, r, α1, m1, l1, ra, me1, q1⟩ => ⟨I1.kIn, call_def hF C hf I1 r ra me1 q1⟩) (starEach_plain (hp e (by simp))) (back_star fun x hx => hp x (by simp [hx]))
    exact Post.bnd q fun v m1 xs H1 α1 st rv me1 q1 => ⟨α1, m1, unl v, rv, me1, q1⟩
theorem ok_call (hG : GOk G) (hF : FnsOk G n) {f : Nat} {l : E} (hl : OkL G lb n l) : OkE G lb n (.call f l) := by
  intro N sc e X W C h
  cases e with
  | Call fe es kw pos =>
    cases fe with
    | Name x p =>
      cases kw with
      | cons _ _ => simp only [chkE, Bool.false_eq_true] at h
      | nil =>
        simp only [chkE, Bool.and_eq_true, decide_eq_true_eq] at h
        obtain ⟨⟨h1, h2⟩, h3⟩ := h
        obtain ⟨g1, g2⟩ := gl_ok C h2
        obtain ⟨a, e1, e2, e3⟩ := hG.fn _ _ (by simpa [Glo.nms] using h1)
        refine ⟨fun pins s σ H Q I ⟨α, ρ, m, re, me, q⟩ => ?_⟩
        refine wpAny_Call_Name_kw (ld_glob I g1 (by rw [C.mg]; exact e2) ?_ g2)
        simp only [evE] at q
        exact callWith_def hF C hl h3 e1 I re me q
    | _ => simp only [chkE, Bool.false_eq_true] at h
  | _ => simp only [chkE, Bool.false_eq_true] at h
theorem ok_callv (hF : FnsOk G n) {f l : E} (hf : OkE G lb n f) (hl : OkL G lb n l) : OkE G lb n (.callv f l) := by
  intro N sc e X W C h
  cases e with
  | Call fe es kw pos =>
    cases fe with
    | Name x p =>
      cases kw with
      | cons _ _ => simp only [chkE, Bool.false_eq_true] at h
      | nil =>
        simp only [chkE, Bool.and_eq_true] at h
        obtain ⟨h1, h3⟩ := h
        refine ⟨fun pins s σ H Q I ⟨α, ρ, m, re, me, q⟩ => ?_⟩
        refine wpAny_Call_Name_kw (thn ((hf N sc _ X W C h1).run pins s σ H (fun x H1 => ∃ α i a m, x = .ref a ∧ G.fa[i]? = some a ∧ EnvR G H1 α ρ σ ∧ MemR G H1 α m ∧ Post G (Rp G) (bnd (evE G.pr.con (run G.pr n) l ρ m) fun r m => run G.pr n i (unl r) m) H1 α Q (wE W σ)) I ⟨α, ρ, m, re, me, ?_⟩) fun u s1 ⟨v, H1, I1, r1, α1, i, a, m1, ev, e1, re1, me1, q1⟩ => ?_)
        · simp only [evE] at q
          refine Post.bnd q fun v m1 x H1 α1 st rv me1 q1 => ?_
          split at q1
          · rename_i i
            cases rv with
            | d h => cases h
            | fn h => exact ⟨α1, i, _, m1, rfl, h, re.ext st.ext st.le, me1, q1⟩
          · exact q1.elim
        · subst ev
          cases r1
          exact callWith_def hF C hl h3 e1 I1 re1 me1 q1
    | _ => simp only [chkE, Bool.false_eq_true] at h
  | _ => simp only [chkE, Bool.false_eq_true] at h
/-! ### sorted(set(a tuple of ints)) -/
theorem insU_mem (x : Int) : ∀ (l : List Int) (k : Int), k ∈ insU x l ↔ k = x ∨ k ∈ l
  | [], k => by simp [insU]
  | y :: l, k => by
    unfold insU
    split
    · simp
    · split
      · rename_i e; subst e; simp
      · simp only [List.mem_cons, insU_mem x l k]
        constructor
        · rintro (h | h | h)
          · exact .inr (.inl h)
          · exact .inl h
          · exact .inr (.inr h)
        · rintro (h | h | h)
          · exact .inr (.inl h)
          · exact .inl h
          · exact .inr (.inr h)
theorem insU_up (x : Int) : ∀ (l : List Int), l.Pairwise (· < ·) → (insU x l).Pairwise (· < ·)
  | [], _ => by simp [insU]
  | y :: l, h => by
    obtain ⟨h1, h2⟩ := List.pairwise_cons.mp h
    unfold insU
    split
    · rename_i hx
      exact List.pairwise_cons.mpr ⟨fun k hk => by
        rcases List.mem_cons.mp hk with rfl | hk
        · exact hx
        · have := h1 k hk; omega, h⟩
    · split
      · exact h
      · refine List.pairwise_cons.mpr ⟨fun k hk => ?_, insU_up x l h2⟩
        rcases (insU_mem x l k).mp hk with rfl | hk
        · omega
        · exact h1 k hk
theorem sortU_mem : ∀ (l : List Int) (k : Int), k ∈ sortU l ↔ k ∈ l
  | [], k => by simp [sortU]
  | x :: l, k => by unfold sortU; rw [insU_mem, sortU_mem l, List.mem_cons]
theorem sortU_up : ∀ (l : List Int), (sortU l).Pairwise (· < ·)
  | [] => by simp [sortU]
  | x :: l => by unfold sortU; exact insU_up x _ (sortU_up l)
theorem up_uniq : ∀ (a b : List Int), a.Pairwise (· < ·) → b.Pairwise (· < ·) → (∀ k, k ∈ a ↔ k ∈ b) → a = b
  | [], [], _, _, _ => rfl
  | [], y :: b, _, _, h => absurd ((h y).mpr (by simp)) (by simp)
  | x :: a, [], _, _, h => absurd ((h x).mp (by simp)) (by simp)
  | x :: a, y :: b, ha, hb, h => by
    obtain ⟨a1, a2⟩ := List.pairwise_cons.mp ha
    obtain ⟨b1, b2⟩ := List.pairwise_cons.mp hb
    have e : x = y := by
      rcases List.mem_cons.mp ((h x).mp (by simp)) with e | hx
      · exact e
      · rcases List.mem_cons.mp ((h y).mpr (by simp)) with e | hy
        · exact e.symm
        · have h1 := a1 y hy
          have h2 := b1 x hx
          omega
    subst e
    rw [up_uniq a b a2 b2 fun k => ?_]
    constructor
    · intro hk
      rcases List.mem_cons.mp ((h k).mp (by simp [hk])) with e | q
      · have := a1 k hk; omega
      · exact q
    · intro hk
      rcases List.mem_cons.mp ((h k).mpr (by simp [hk])) with e | q
      · have := b1 k hk; omega
      · exact q
theorem intsOf_map : ∀ {l : List PV} {is : List Int}, intsOf l = some is → l = is.map PV.int
  | [], is, h => by simp [intsOf] at h; subst h; rfl
  | x :: l, is, h => by
    cases x <;> simp [intsOf] at h
    obtain ⟨js, h1, rfl⟩ := h
    rw [List.map_cons, ← intsOf_map h1]
theorem setArg_of {H : Hp} {α : Al} {x : V} {v : PV} {l : List PV} (rx : Rp G H α x v) (hv : v = .lst l ∨ v = .tup l) (hs : setable l = true) : SetArg G.K H x l := by
  rcases hv with rfl | rfl
  · cases rx with
    | d f => cases f with
      | lst z1 z2 z3 => exact ⟨_, _, rfl, .inl z1.sq, z3, hs⟩
  · cases rx with
    | d f => cases f with
      | tup z1 z2 z3 => exact ⟨_, _, rfl, .inr z1, z3, hs⟩
theorem one_ls {ls : List PV} {mu : Bool} {b : Bf} {m : Mem} {H : Hp} {α : Al} {Q : VK} {E : EW} (hb : b = .lenset ∨ b = .sortset) (q : Post G (Rp G) (callB mu b ls m) H α Q E) : ∃ x, ls = [x] := by
  rcases ls with _ | ⟨x, _ | ⟨y, r⟩⟩
  · rcases hb with rfl | rfl <;> exact q.elim
  · exact ⟨x, rfl⟩
  · rcases hb with rfl | rfl <;> exact q.elim
theorem ok_lenset (hG : GOk G) {mu : Bool} {l : E} (hl : OkL G lb n l) {N : List Str} {sc : Scope} {e : Expr} {p1 p2 p3 p4 : Pos} {X : Cx} {W : WX} (C : CG G lb n N sc W X) (h1 : bltB G.nms sc (Str.ofString "len") = true) (h2 : bltB G.nms sc (Str.ofString "set") = true) (h3 : chkL G.nms N l sc [e] = true) :
    PE X (.Call (.Name (Str.ofString "len") p1) [.Call (.Name (Str.ofString "set") p2) [e] [] p3] [] p4) (tE G n W (.bf mu .lenset l)) := by
  obtain ⟨g1, g2, g3, g4⟩ := blt_ok hG C h1
  obtain ⟨k1, k2, k3, k4⟩ := blt_ok hG C h2
  have hp := chkL_plain h3
  refine PE.weak (pe_lenSetJ C.calm (by have := C.room.un; omega) g1 g2 k1 k2 (hl N sc _ X W C h3) (starEach_plain (hp e (by simp)))) fun σ H Q ⟨α, ρ, m, re, me, q⟩ => ⟨α, ρ, m, re, me, ?_⟩
  simp only [evE] at q
  refine Post.bnd q fun v m1 xs H1 α1 st rv me1 q1 => ?_
  generalize unl v = ls at rv q1
  obtain ⟨x0, rfl⟩ := one_ls (.inl rfl) q1
  obtain ⟨x, rfl, rx⟩ := one_arg rv
  refine ⟨x, rfl, ?_⟩
  rw [C.K]
  have setc : ∀ l', (x0 = .lst l' ∨ x0 = .tup l') → Post G (Rp G) (if setable l' then R.ok (PV.int (dist l').length) m1 else R.no) H1 α1 Q (wE W σ) → ∃ l, SetArg G.K H1 x l ∧ Q (.int (dist l).length) H1 := fun l' hv q => by
    by_cases hs : setable l' = true
    · rw [if_pos hs] at q
      exact ⟨l', setArg_of rx hv hs, Post.ok (v := PV.int _) q (.d (.int _)) me1⟩
    · rw [if_neg hs] at q
      exact q.elim
  cases x0 with
  | lst l' =>
    have q1 : Post G (Rp G) (match intsOf l' with
      | some is => if is.length ≤ 1000 then R.ok (.int (dist l').length) m1 else .no
      | none => if setable l' then .ok (.int (dist l').length) m1 else .no) H1 α1 Q (wE W σ) := q1
    cases e3 : intsOf l' with
    | none =>
      rw [e3] at q1
      exact .inr (setc l' (.inl rfl) q1)
    | some is =>
      rw [e3] at q1
      have e5 := intsOf_map e3
      cases rx with
      | d f =>
        cases f with
        | lst z1 z2 z3 =>
          have e4 := ints_fz z3 e3
          subst e4
          by_cases hlt : is.length ≤ 1000
          · simp only [if_pos hlt] at q1
            rw [e5] at q1
            exact .inl ⟨_, is, rfl, z1.sq, hlt, Post.ok (v := PV.int _) q1 (.d (.int _)) me1⟩
          · simp only [if_neg hlt] at q1
            exact q1.elim
  | tup l' => exact .inr (setc l' (.inr rfl) q1)
  | _ => exact q1.elim
theorem ok_sortset (hG : GOk G) {mu : Bool} {l : E} (hl : OkL G lb n l) {N : List Str} {sc : Scope} {e : Expr} {p1 p2 p3 p4 : Pos} {X : Cx} {W : WX} (C : CG G lb n N sc W X) (h1 : bltB G.nms sc (Str.ofString "sorted") = true) (h2 : bltB G.nms sc (Str.ofString "set") = true) (h3 : chkL G.nms N l sc [e] = true) :
    PE X (.Call (.Name (Str.ofString "sorted") p1) [.Call (.Name (Str.ofString "set") p2) [e] [] p3] [] p4) (tE G n W (.bf mu .sortset l)) := by
  obtain ⟨g1, g2, g3, g4⟩ := blt_ok hG C h1
  obtain ⟨k1, k2, k3, k4⟩ := blt_ok hG C h2
  have hp := chkL_plain h3
  refine PE.weak (PE.lk (pe_sortSetJ C.calm (by have := C.room.un; omega) g1 g2 k1 k2 (hl N sc _ X W C h3) (starEach_plain (hp e (by simp))))) fun σ H Q ⟨α, ρ, m, re, me, q⟩ => ⟨α, ρ, m, re, me, ?_⟩
  simp only [evE] at q
  refine Post.bnd q fun v m1 xs H1 α1 st rv me1 q1 => ?_
  generalize unl v = ls at rv q1
  obtain ⟨x0, rfl⟩ := one_ls (.inr rfl) q1
  obtain ⟨x, rfl, rx⟩ := one_arg rv
  refine ⟨x, rfl, ?_⟩
  rw [C.K]
  have setc : ∀ l', (x0 = .lst l' ∨ x0 = .tup l') → Post G (Rp G) (if (setable l' && sortable l') = true then mkl mu (sortN l') m1 else R.no) H1 α1 Q (wE W σ) → ∃ l, SetArg G.K H1 x l ∧ sortable l = true ∧ ∀ (p : Addr) (out : List V), H1 p = none → FzAll G.K H1 out (sortN l) → LK Q (.ref p) (L2.upd H1 p (.lst out)) := fun l' hv q => by
    by_cases hs : (setable l' && sortable l') = true
    · rw [if_pos hs] at q
      rw [Bool.and_eq_true] at hs
      refine ⟨l', setArg_of rx hv hs.1, hs.2, fun p out hpn fo => LK.mk q hpn fo.rp ?_ me1⟩
      rw [FzAll.length fo]
      have h1 := sortN_le l'
      have h2 := (set_ok hs.1).2.2.2
      exact small_size (by omega)
    · rw [if_neg hs] at q
      exact q.elim
  cases x0 with
  | lst l' => exact .inr (setc l' (.inl rfl) q1)
  | tup l' =>
    have q1 : Post G (Rp G) (match intsOf l' with
      | some is => if is.length < 64 then mkl mu ((sortU is).map .int) m1 else .no
      | none => if (setable l' && sortable l') = true then mkl mu (sortN l') m1 else .no) H1 α1 Q (wE W σ) := q1
    cases e3 : intsOf l' with
    | none =>
      rw [e3] at q1
      exact .inr (setc l' (.inr rfl) q1)
    | some is =>
      rw [e3] at q1
      cases rx with
      | d f =>
        cases f with
        | tup z1 z2 z3 =>
          have e4 := ints_fz z3 e3
          subst e4
          by_cases hlt : is.length < 64
          · simp only [if_pos hlt] at q1
            refine .inl ⟨_, is, rfl, z1, hlt, fun p c hp hc => ⟨p, _, c, rfl, upd_same, by omega, fun ns p2 hup hmem hlen hp2 => ?_⟩⟩
            have e5 : ns = sortU is := up_uniq _ _ hup (sortU_up is) fun k => by rw [hmem, sortU_mem]; simp
            subst e5
            refine LK.mk (q1.base (Stp.laid hp)) hp2 ?_ ?_ (me1.upd hp)
            · have key : ∀ ks : List Int, RpAll G (L2.upd H1 p (SetO X.w p (fun j => decide (j ∈ is)) c)) α1 (ks.map V.int) (ks.map PV.int) := by
                intro ks
                induction ks with
                | nil => exact .nil
                | cons k ks ih => exact .cons (.d (.int k)) ih
              exact key _
            · rw [List.length_map, hlen]; exact small_size (by omega)
          · simp only [if_neg hlt] at q1
            exact q1.elim
  | _ => exact q1.elim
theorem bf_boot {b : Bf} {x : Str} {f : Value} (h : bfId b = some (x, f)) : bootBuiltins x = some f := by
  cases b <;> first | (cases h; decide +kernel) | cases h
theorem bf_kind {b : Bf} {x : Str} {f : Value} (h : bfId b = some (x, f)) : (∃ id, f = .builtin id) ∨ ∃ T, f = .type T := by
  cases b <;> first | (cases h; exact .inl ⟨_, rfl⟩) | (cases h; exact .inr ⟨_, rfl⟩) | cases h
theorem ok_bf (hG : GOk G) {mu : Bool} {b : Bf} {l : E} (hl : OkL G lb n l) : OkE G lb n (.bf mu b l) := by
  intro N sc e X W C h
  cases e with
  | Call fe es kw pos =>
    cases fe with
    | Name x p =>
      cases kw with
      | cons _ _ => simp only [chkE, Bool.false_eq_true] at h
      | nil =>
        cases es with
        | nil => simp only [chkE, Bool.false_eq_true] at h
        | cons e es =>
          simp only [chkE] at h
          cases hb : bfId b with
          | none =>
            rw [hb] at h
            cases e <;> try (cases h; done)
            rename_i f2 es2 kw2 pos2
            cases f2 <;> try (cases h; done)
            rcases es2 with _ | ⟨e2, _ | _⟩ <;> try (cases h; done)
            cases kw2 <;> try (cases h; done)
            cases b <;> try (cases h; done)
            all_goals cases es <;> try (cases h; done)
            all_goals simp only [Bool.and_eq_true, decide_eq_true_eq] at h
            all_goals obtain ⟨⟨⟨⟨h1, h2⟩, h3⟩, h4⟩, h5⟩ := h
            all_goals subst h1 h3
            all_goals first | exact ok_sortset hG hl C h2 h4 h5 | exact ok_lenset hG hl C h2 h4 h5
          | some p =>
            obtain ⟨y, f⟩ := p
            rw [hb] at h
            simp only [Bool.and_eq_true, decide_eq_true_eq] at h
            obtain ⟨⟨h1, h2⟩, h3⟩ := h
            subst h1
            obtain ⟨g1, g2, g3, g4⟩ := blt_ok hG C h2
            have hp := chkL_plain h3
            refine ⟨fun pins s σ H Q I ⟨α, ρ, m, re, me, q⟩ => ?_⟩
            refine wpAny_Call_Name_kw (ld_blt I g1 g2 (bf_boot hb) ?_ g3 g4)
            have key : wpAny (model X.prog X.w) X.A (spliced (backTo pos (starEach (e :: es) X.env))) (fun us s1 => wpAny (model X.prog X.w) X.A (call f us) (EP X pins σ Q) X.xe s1) X.xe s := by
              refine thn ((hl N sc _ X W C h3).run pos pins s σ H (fun xs H1 => ∃ α m l, RpAll G H1 α xs l ∧ MemR G H1 α m ∧ Post G (Rp G) (callB mu b l m) H1 α Q (wE W σ)) I ⟨α, ρ, m, re, me, ?_⟩) fun us s1 ⟨vs, H1, I1, r, α1, m1, l1, ra, me1, q1⟩ => call_bf C.K C.calm (by have := C.room.un; omega) hb I1 r ra me1 q1
              simp only [evE] at q
              exact Post.bnd q fun v m1 xs H1 α1 st rv me1 q1 => ⟨α1, m1, unl v, rv, me1, q1⟩
            have e1 := starEach_plain (es := es) (env := X.env) (hp e (by simp))
            have e2 : (backTo pos (starEach es X.env)).any (·.1) = false := back_star fun x hx => hp x (by simp [hx])
            rcases bf_kind hb with ⟨id, rfl⟩ | ⟨T, rfl⟩
            · exact PyProof.Rows.callWith_builtin1 key e1 e2
            · exact PyProof.Rows.callWith_type1 key e1 e2
    | _ => simp only [chkE, Bool.false_eq_true] at h
  | _ => simp only [chkE, Bool.false_eq_true] at h
theorem ty_boot (t : Ty) : bootBuiltins (Str.ofString (tyN t)) = some (.type (tyN t)) := by
  cases t <;> decide +kernel
theorem ok_isi (hG : GOk G) {a : E} {t : Ty} (ha : OkE G lb n a) : OkE G lb n (.isi a t) := by
  intro N sc e X W C h
  cases e with
  | Call fe es kw pos =>
    cases fe with
    | Name x p =>
      cases kw with
      | cons _ _ => simp only [chkE, Bool.false_eq_true] at h
      | nil =>
        rcases es with _ | ⟨e, _ | ⟨f, _ | ⟨g, es⟩⟩⟩ <;> try (simp only [chkE, Bool.false_eq_true] at h; done)
        · cases f with
          | Name y py =>
            simp only [chkE, Bool.and_eq_true, decide_eq_true_eq] at h
            obtain ⟨⟨⟨⟨h1, h2⟩, h3⟩, h4⟩, h5⟩ := h
            subst h1
            have e4 : y = Str.ofString (tyN t) := beq_iff_eq.mp h4
            subst e4
            obtain ⟨g1, g2, g3, g4⟩ := blt_ok hG C h2
            obtain ⟨k1, k2, k3, k4⟩ := blt_ok hG C h5
            refine PE.weak (pe_callB call_isi g1 g2 (by decide +kernel) (pa_cons (ha N sc _ X W C h3) (pa_cons (pe_bltn (v := .ty (tyN t)) k1 k2 (ty_boot t) rfl k3 k4) pa_nil) (starEach_plain (chk_plain h3))) g3 g4 (starEach_plain (chk_plain h3)) rfl) fun σ H Q ⟨α, ρ, m, re, me, q⟩ => ⟨α, ρ, m, re, me, ?_⟩
            simp only [evE] at q
            exact Post.bnd q fun v m1 x H1 α1 st rv me1 q1 => isi_ok C.K rv me1 q1
          | _ => simp only [chkE, Bool.false_eq_true] at h
    | _ => simp only [chkE, Bool.false_eq_true] at h
  | _ => simp only [chkE, Bool.false_eq_true] at h
end
end Pv
namespace Pv
open PySem PySem.Spec PyProof.Rows L2
/-! ### targets -/
theorem wipe_set : ∀ {σ : L2.St} {i : Nat} {x : Option V} {vs : List Nat}, i ∈ vs → L2.wipe (σ.set i x) vs = L2.wipe σ vs := by
  intro σ i x vs
  induction vs with
  | nil => intro h; simp at h
  | cons v vs ih =>
    intro h
    by_cases hv : i ∈ vs
    · show (L2.wipe (σ.set i x) vs).set v none = (L2.wipe σ vs).set v none
      rw [ih hv]
    · have e : i = v := by
        rcases List.mem_cons.mp h with h | h
        · exact h
        · exact absurd h hv
      subst e
      show (L2.wipe (σ.set i x) vs).set i none = (L2.wipe σ vs).set i none
      have key : ∀ (ws : List Nat) (τ : L2.St), i ∉ ws → L2.wipe (τ.set i x) ws = (L2.wipe τ ws).set i x := by
        intro ws τ
        induction ws with
        | nil => intro _; rfl
        | cons w ws ihw =>
          intro hn
          show (L2.wipe (τ.set i x) ws).set w none = ((L2.wipe τ ws).set w none).set i x
          rw [ihw (fun q => hn (by simp [q])), List.set_comm _ _ (by rintro rfl; exact hn (by simp))]
      rw [key vs σ hv, List.set_set]
section
variable {G : Glo} {lb : Bool} {n : Nat}
def After (G : Glo) (H : Hp) (α : Al) (sl : List Nat) (ρ' : Env) (σ : L2.St) (Q : L2.St → Hp → Prop) : Prop := ∀ σ', EnvR G H α ρ' σ' → (∀ vs : List Nat, (∀ i ∈ sl, i ∈ vs) → L2.wipe σ' vs = L2.wipe σ vs) → Q σ' H
def tG (G : Glo) (t : Tg) : TG := fun x σ H Q => ∃ α ρ v ρ', EnvR G H α ρ σ ∧ Rp G H α x v ∧ asg t v ρ = some ρ' ∧ After G H α t.slots ρ' σ Q
def tGs (G : Glo) (t : Tg) : TGs := fun xs σ H Q => ∃ α ρ l ρ', EnvR G H α ρ σ ∧ RpAll G H α xs l ∧ asg t (.tup l) ρ = some ρ' ∧ After G H α t.slots ρ' σ Q
theorem PG.weak {X : Cx} {e : Expr} {t t' : TG} (h : PG X e t) (k : ∀ v σ H Q, t' v σ H Q → t v σ H Q) : PG X e t' := ⟨fun pins s σ H v u Q I r q => h.run pins s σ H v u Q I r (k _ _ _ _ q)⟩
theorem PGs.weak {X : Cx} {e : List Expr} {t t' : TGs} (h : PGs X e t) (k : ∀ v σ H Q, t' v σ H Q → t v σ H Q) : PGs X e t' := ⟨fun pins s σ H v u Q I r q => h.run pins s σ H v u Q I r (k _ _ _ _ q)⟩
theorem chkT_plain {N : List Str} {fc : Str → Bool} {sc : Scope} {t : Tg} {e : Expr} {es : List Expr} {env : PySem.Env} (h : chkT N fc sc t e = true) : assignEach (e :: es) env = (false, assign e env) :: assignEach es env := by
  cases t <;> cases e <;> first | rfl | (simp only [chkT, Bool.false_eq_true] at h)
theorem chkTs_len {N : List Str} {fc : Str → Bool} {sc : Scope} {env : PySem.Env} : ∀ {t : Tg} {es : List Expr}, chkTs N fc sc t es = true → (assignEach es env).length = es.length ∧ (assignEach es env).findIdx? (·.1) = none := by
  intro t es
  induction es generalizing t with
  | nil => intro _; exact ⟨rfl, rfl⟩
  | cons e es ih =>
    intro h
    cases t <;> simp only [chkTs, Bool.false_eq_true, Bool.and_eq_true] at h
    obtain ⟨h1, h2⟩ := ih h.2
    rw [chkT_plain h.1]
    refine ⟨by simp [h1], ?_⟩
    rw [List.findIdx?_cons]
    simp [h2]
theorem chkTs_vals {N : List Str} {fc : Str → Bool} {sc : Scope} : ∀ {t : Tg} {es : List Expr} {l : List PV} {ρ ρ' : Env}, chkTs N fc sc t es = true → asg t (.tup l) ρ = some ρ' → l.length = es.length := by
  intro t es
  induction es generalizing t with
  | nil =>
    intro l ρ ρ' h e
    cases t <;> simp only [chkTs, Bool.false_eq_true] at h
    cases l with
    | nil => rfl
    | cons a l => cases e
  | cons x es ih =>
    intro l ρ ρ' h e
    cases t <;> simp only [chkTs, Bool.false_eq_true, Bool.and_eq_true] at h
    cases l with
    | nil => cases e
    | cons a l =>
      obtain ⟨ρ1, e1, e2⟩ := Option.bind_eq_some_iff.mp e
      simp [ih h.2 e2]
theorem okG_both : ∀ (t : Tg) {N : List Str} {fc : Str → Bool} {sc : Scope} {X : Cx} {W : WX}, CG G lb n N sc W X → (∀ x, fc x = true → X.fn x = true) →
    (∀ {e : Expr}, chkT N fc sc t e = true → PG X e (tG G t)) ∧ (∀ {es : List Expr}, chkTs N fc sc t es = true → PGs X es (tGs G t)) := by
  intro t
  induction t with
  | v i =>
    intro N fc sc X W C hf
    refine ⟨fun {e} h => ?_, fun {es} h => by simp only [chkTs, Bool.false_eq_true] at h⟩
    cases e <;> simp only [chkT, Bool.false_eq_true, Bool.and_eq_true, Bool.or_eq_true, decide_eq_true_eq] at h
    obtain ⟨h1, h2⟩ := h
    have e1 : ∀ y, X.env.scope.names.lookup y = sc.names.lookup y := fun y => by rw [C.sc]
    refine PG.weak (pg_name (i := i) (by rw [C.nm]; exact C.nd) (by rw [C.nm]; exact h1) ?_ ?_) fun v σ H Q ⟨α, ρ, w, ρ', re, r, e, k⟩ => ?_
    · rcases h2 with h2 | h2
      · exact .inl ((e1 _).trans h2)
      · exact .inr ((e1 _).trans h2.1)
    · rcases h2 with h2 | h2
      · exact .inr ((e1 _).trans h2)
      · exact .inl (hf _ h2.2)
    · cases e
      exact k _ (re.set r i) fun vs hv => wipe_set (hv i (by simp [Tg.slots]))
  | t l ih =>
    intro N fc sc X W C hf
    refine ⟨fun {e} h => ?_, fun {es} h => by simp only [chkTs, Bool.false_eq_true] at h⟩
    cases e <;> simp only [chkT, Bool.false_eq_true] at h
    obtain ⟨h1, h2⟩ := chkTs_len (env := X.env) h
    refine PG.weak (pg_tup C.calm ((ih C hf).2 h) h1 h2) fun v σ H Q ⟨α, ρ, w, ρ', re, r, e, k⟩ => ?_
    cases w with
    | tup l =>
      cases r with
      | d f =>
        cases f with
        | tup z1 z2 z3 => exact ⟨_, _, rfl, by rw [C.K]; exact z1, by rw [z3.length]; exact chkTs_vals h e, α, ρ, l, ρ', re, z3.rp, e, k⟩
    | _ => cases e
  | nil =>
    intro N fc sc X W C hf
    refine ⟨fun {e} h => by simp only [chkT, Bool.false_eq_true] at h, fun {es} h => ?_⟩
    cases es <;> simp only [chkTs, Bool.false_eq_true] at h
    refine PGs.weak pgs_nil fun v σ H Q ⟨α, ρ, w, ρ', re, r, e, k⟩ => ?_
    cases w with
    | nil =>
      cases r
      cases e
      exact ⟨rfl, k _ re fun vs hv => rfl⟩
    | cons _ _ => cases e
  | cons a l iha ihl =>
    intro N fc sc X W C hf
    refine ⟨fun {e} h => by simp only [chkT, Bool.false_eq_true] at h, fun {es} h => ?_⟩
    cases es <;> simp only [chkTs, Bool.false_eq_true, Bool.and_eq_true] at h
    obtain ⟨h1, h2⟩ := h
    refine PGs.weak (pgs_cons ((iha C hf).1 h1) ((ihl C hf).2 h2) (by rw [chkT_plain h1]; rfl)) fun v σ H Q ⟨α, ρ, w, ρ', re, r, e, k⟩ => ?_
    cases w with
    | nil => cases e
    | cons w ws =>
      obtain ⟨ρ1, e1, e2⟩ := Option.bind_eq_some_iff.mp e
      cases r with
      | cons r1 r2 =>
        refine ⟨_, _, rfl, α, ρ, w, ρ1, re, r1, e1, fun σ1 re1 w1 => ⟨α, ρ1, ws, ρ', re1, r2, e2, fun σ2 re2 w2 => k σ2 re2 fun vs hv => ?_⟩⟩
        rw [w2 vs fun i hi => hv i (by simp [Tg.slots, hi]), w1 vs fun i hi => hv i (by simp [Tg.slots, hi])]
end
end Pv
namespace Pv
open PySem PySem.Spec PyProof.Rows L2
theorem small_b {i : Int} (h : small i = true) : -(2 ^ 62) ≤ i ∧ i < 2 ^ 62 := by
  unfold small at h
  simpa using h
theorem big_size : big ≤ sizeLine := by rw [sizeLine_eq]; unfold big; omega
theorem rangeL_length : ∀ (n : Nat) (lo : Int), (rangeL lo n).length = n
  | 0, _ => rfl
  | n + 1, lo => by simp [rangeL, rangeL_length n]
theorem rangeL_get : ∀ (n : Nat) (lo : Int) (i : Nat), i < n → (rangeL lo n)[i]? = some (.int (lo + i))
  | n + 1, lo, 0, _ => by simp [rangeL]
  | n + 1, lo, i + 1, h => by
    have := rangeL_get n (lo + 1) i (by omega)
    show (rangeL (lo + 1) n)[i]? = _
    rw [this]
    congr 2
    push_cast
    omega
section
variable {G : Glo} {lb : Bool} {n : Nat}
theorem GoodJ.range {H : Hp} {α : Al} {lo : Int} {k : Nat} (h : k ≤ big) : GoodJ G H α (Itr lo k) (.lst (rangeL lo k)) := by
  refine .inl ⟨_, .inr rfl, by rw [rangeL_length]; exact Nat.le_trans h big_size, _, _, by rw [rangeL_length]; exact walk_range, fun _ _ => trivial, fun i H1 x H2 _ hi y => ?_⟩
  obtain ⟨rfl, rfl⟩ := y
  rw [rangeL_length] at hi
  exact ⟨.inl rfl, _, rangeL_get k lo i hi, .int _⟩
theorem GoodJ.lst {H : Hp} {α : Al} {a : Addr} {xs : List V} {l : List PV} (h : FL H a xs) (z : xs.length ≤ sizeLine) (f : FzAll G.K H xs l) : GoodJ G H α (Itl G.K a) (.lst l) := by
  refine .inl ⟨_, .inr rfl, by rw [← f.length]; exact z, _, _, by rw [← f.length]; exact walk_list (xs := xs), fun _ e => (h.ext e).sq, fun i H1 x H2 e hi y => ?_⟩
  obtain ⟨rfl, y⟩ := y
  obtain ⟨d, e1, e2⟩ := f.get' y
  exact ⟨.inl rfl, d, e1, e2.ext e⟩
theorem GoodJ.tup {H : Hp} {α : Al} {a : Addr} {xs : List V} {l : List PV} (h : SqT G.K H a xs) (z : xs.length ≤ sizeLine) (f : FzAll G.K H xs l) : GoodJ G H α (Itt G.K a) (.tup l) := by
  refine .inl ⟨_, .inl rfl, by rw [← f.length]; exact z, _, _, by rw [← f.length]; exact walk_tup (xs := xs), fun _ e => SqT.ext e h, fun i H1 x H2 e hi y => ?_⟩
  obtain ⟨rfl, y⟩ := y
  obtain ⟨d, e1, e2⟩ := f.get' y
  exact ⟨.inl rfl, d, e1, e2.ext e⟩
/-- what is walked is a list or a tuple -/
def tSeqI (K : PySem.W.Frag) (te : TE) : TI := fun σ H R => te σ H fun x H1 => ∃ a xs, x = .ref a ∧ ((SqL K H1 a xs ∧ R (Itl K a) H1) ∨ (SqT K H1 a xs ∧ R (Itt K a) H1))
theorem pi_seq {X : Cx} {tg e : Expr} {te : TE} (he : PE X e te) : PI X tg e (tSeqI X.K te) := by
  refine ⟨fun pins s0 σ Ho R Io hw => ?_⟩
  refine thn (he.run pins s0 σ Ho _ Io hw) fun uo sA ⟨xo, HA, IA, rA, a, xs, ex, hq⟩ => ?_
  subst ex
  cases rA
  have fpA : ∀ b ∈ [sA.heap.objs.size], FpOk X pins HA b := fun b hb => by
    obtain rfl : b = sA.heap.objs.size := by simpa using hb
    exact IA.fpOk (Nat.le_refl _) (IA.hok.fresh (Nat.le_refl _))
  rcases hq with ⟨hl, qR⟩ | ⟨ht, qR⟩
  · obtain ⟨vals, rv, pv, _⟩ := IA.list hl
    exact wpAny_pyIter_list pv.isList ⟨_, [sA.heap.objs.size], _, _, HA, rfl, IA.kept (t' := sA.toks) fun b ob eb => Heap.get?_push_of_some _ eb, turn_list a _, ⟨_, Heap.get?_push_size _ rfl, rfl, rfl⟩, fpA, qR⟩
  · obtain ⟨vals, rv, pv, _⟩ := IA.tuple ht
    exact wpAny_pyIter_tuple (items := vals.toArray) pv ⟨_, [sA.heap.objs.size], _, _, HA, rfl, IA.kept (t' := sA.toks) fun b ob eb => Heap.get?_push_of_some _ eb, turn_tuple a _, ⟨_, Heap.get?_push_size _ rfl, rfl, rfl⟩, fpA, qR⟩
theorem PI.weak {X : Cx} {tg e : Expr} {t t' : TI} (h : PI X tg e t) (k : ∀ σ H Q, t' σ H Q → t σ H Q) : PI X tg e t' := ⟨fun pins s σ H Q I q => h.run pins s σ H Q I (k _ _ _ q)⟩
theorem Post.seq {γ : Type} {rel : Hp → Al → V → γ → Prop} {rel' : Hp → Al → It → PV → Prop} {H : Hp} {α : Al} {Q : VK} {S : It → Hp → Prop} {E : EW} {r : R PV} {f : PV → Mem → R γ} (h : Post G rel (Pv.bnd r f) H α Q E) (hf : ∀ v m, sq v m = .no → f v m = .no)
    (k : ∀ v m' x H1 α1, Stp H α H1 α1 → rel' H1 α1 x v → MemR G H1 α1 m' → Post G rel (f v m') H1 α1 Q E → S x H1) : Post G rel' (Pv.bnd r sq) H α S E := by
  cases r with
  | no => exact h
  | exc x m => exact h
  | ok v m =>
    simp only [bnd_ok] at h ⊢
    cases e : sq v m with
    | no => rw [hf v m e] at h; exact h.elim
    | exc x m' => cases v <;> cases e
    | ok w m' =>
      have e1 : w = v ∧ m' = m := by cases v <;> first | (cases e; exact ⟨rfl, rfl⟩) | cases e
      obtain ⟨rfl, rfl⟩ := e1
      exact fun x H1 α1 st rx me => k _ _ x H1 α1 st rx me (Post.base (r := f w m') h st)
/-- a value that is walked -/
theorem okI_val {c : E} (hc : OkE G lb n c) : OkI G lb n c := by
  intro N sc e tg X W C _ hk
  refine PI.weak (pi_seq (hc N sc e X W C hk)) fun σ H R ⟨α, ρ, m, re, me, q⟩ => ⟨α, ρ, m, re, me, ?_⟩
  refine Post.bnd q fun v m1 x H1 α1 st rv me1 q1 => ?_
  cases v with
  | tup l =>
    cases rv with
    | d f =>
      cases f with
      | tup z1 z2 z3 =>
        rw [C.K]
        exact ⟨_, _, rfl, .inr ⟨z1, Post.ok (v := PV.tup l) (rel := GoodJ G) q1 (GoodJ.tup z1 z2 z3) me1⟩⟩
  | lst l =>
    cases rv with
    | d f =>
      cases f with
      | lst z1 z2 z3 =>
        rw [C.K]
        exact ⟨_, _, rfl, .inl ⟨z1.sq, Post.ok (v := PV.lst l) (rel := GoodJ G) q1 (GoodJ.lst z1 z2 z3) me1⟩⟩
  | cell k =>
    cases rv with
    | d f => cases f
    | cell hk =>
      rw [C.K]
      obtain ⟨xs, hx⟩ := me1.mem (List.mem_of_getElem? hk)
      exact ⟨_, xs, rfl, .inl ⟨SqL.of hx, Post.ok (v := PV.cell k) (rel := GoodJ G) q1 (.inr ⟨k, _, rfl, hk, rfl⟩) me1⟩⟩
  | _ => exact q1.elim
theorem ok_rng (hG : GOk G) {a : E} (ha : OkE G lb n a) : OkI G lb n (.rng a) := by
  intro N sc e tg X W C _ h
  cases e with
  | Call fe es kw pos =>
    cases fe with
    | Name x p =>
      cases kw with
      | cons _ _ => simp only [chkE, Bool.false_eq_true] at h
      | nil =>
        rcases es with _ | ⟨e, _ | ⟨f, es⟩⟩ <;> simp only [chkE, Bool.false_eq_true, Bool.and_eq_true, decide_eq_true_eq] at h
        obtain ⟨⟨h1, h2⟩, h3⟩ := h
        subst h1
        obtain ⟨g1, g2, g3, g4⟩ := blt_ok hG C h2
        have e1 := starEach_plain (es := []) (env := X.env) (chk_plain h3)
        refine PI.weak (pi_range1 g1 g2 (pa_cons (ha N sc _ X W C h3) pa_nil e1) e1) fun σ H R ⟨α, ρ, m, re, me, q⟩ => ⟨α, ρ, m, re, me, ?_⟩
        simp only [evE] at q
        generalize evE G.pr.con (run G.pr n) a ρ m = r at q ⊢
        cases r with
        | no => exact q
        | exc x m1 => exact q
        | ok v m1 =>
          simp only [bnd_ok] at q
          intro x H1 α1 st rv me1
          have q := Post.base q st
          cases v with
          | int i =>
            have e2 := fz_int rv
            subst e2
            by_cases hb : i ≤ (big : Int) ∧ small i = true
            · have q := q
              simp only [if_pos hb] at q
              obtain ⟨b1, b2⟩ := small_b hb.2
              exact ⟨i, rfl, b1, b2, Post.ok (rel := GoodJ G) q (GoodJ.range (by omega)) me1⟩
            · simp only [if_neg hb] at q
              exact q.elim
          | _ => exact q.elim
    | _ => simp only [chkE, Bool.false_eq_true] at h
  | _ => simp only [chkE, Bool.false_eq_true] at h
theorem ok_rng2 (hG : GOk G) {a b : E} (ha : OkE G lb n a) (hb : OkE G lb n b) : OkI G lb n (.rng2 a b) := by
  intro N sc e tg X W C _ h
  cases e with
  | Call fe es kw pos =>
    cases fe with
    | Name x p =>
      cases kw with
      | cons _ _ => simp only [chkE, Bool.false_eq_true] at h
      | nil =>
        rcases es with _ | ⟨e, _ | ⟨f, _ | ⟨g, es⟩⟩⟩ <;> simp only [chkE, Bool.false_eq_true, Bool.and_eq_true, decide_eq_true_eq] at h
        obtain ⟨⟨⟨h1, h2⟩, h3⟩, h4⟩ := h
        subst h1
        obtain ⟨g1, g2, g3, g4⟩ := blt_ok hG C h2
        have e1 := starEach_plain (es := [f]) (env := X.env) (chk_plain h3)
        have e2 := starEach_plain (es := []) (env := X.env) (chk_plain h4)
        refine PI.weak (pi_range2 g1 g2 (pa_cons (ha N sc _ X W C h3) (pa_cons (hb N sc _ X W C h4) pa_nil e2) e1) (by rw [e1, e2]; rfl) e2) fun σ H R ⟨α, ρ, m, re, me, q⟩ => ⟨α, ρ, m, re, me, ?_⟩
        simp only [evE] at q
        generalize evE G.pr.con (run G.pr n) a ρ m = r at q ⊢
        cases r with
        | no => exact q
        | exc x m1 => exact q
        | ok v m1 =>
          simp only [bnd_ok] at q
          intro x H1 α1 st rv me1
          have q := Post.base q st
          refine ⟨α1, ρ, m1, re.ext st.ext st.le, me1, ?_⟩
          generalize evE G.pr.con (run G.pr n) b ρ m1 = r at q ⊢
          cases r with
          | no => exact q
          | exc x m1 => exact q
          | ok w m2 =>
            simp only [bnd_ok] at q
            intro y H2 α2 st2 rw' me2
            have q := Post.base q st2
            cases v with
            | int i =>
              cases w with
              | int j =>
                have e3 := fz_int rv
                have e4 := fz_int rw'
                subst e3 e4
                by_cases hb : j - i ≤ (big : Int) ∧ small i = true ∧ small j = true
                · have q := q
                  simp only [if_pos hb] at q
                  obtain ⟨b1, b2⟩ := small_b hb.2.1
                  obtain ⟨b3, b4⟩ := small_b hb.2.2
                  exact ⟨i, j, rfl, ⟨b1, b2, b3, b4⟩, Post.ok (rel := GoodJ G) q (GoodJ.range (by omega)) me2⟩
                · simp only [if_neg hb] at q
                  exact q.elim
              | _ => exact q.elim
            | _ => exact q.elim
    | _ => simp only [chkE, Bool.false_eq_true] at h
  | _ => simp only [chkE, Bool.false_eq_true] at h
end
end Pv
namespace Pv
open PySem PySem.Spec PyProof.Rows L2
theorem bnd_assoc {α β γ : Type} (r : R α) (f : α → Mem → R β) (g : β → Mem → R γ) : bnd (bnd r f) g = bnd r fun a m => bnd (f a m) g := by cases r <;> rfl
section
variable {G : Glo} {lb : Bool} {n : Nat} {H H2 : Hp} {α α2 : Al}
theorem Stp.over {p : Addr} {xs : List V} {o : HO} (st : Stp H α H2 α2) (h0 : H p = none) (hp : H2 p = some (.lst xs)) (ho : isTbl o = false := by rfl) : Stp H α (L2.upd H2 p o) α2 :=
  ⟨st.ext.trans (Ext.set hp), st.le, st.new, fun a u e z hn => by rw [upd_ne (ne_of_none e h0)]; exact st.keep a u e z hn, fun a u e z => by obtain ⟨o', e', z'⟩ := st.there a u e z; exact upd_there ho a o' e' z'⟩
theorem MemR.beside {m : Mem} {p : Addr} {xs : List V} {o : HO} (me : MemR G H α m) (hp : H p = some (.lst xs)) (hn : p ∉ α) : MemR G (L2.upd H p o) α m :=
  ⟨tabs_lst me.tab hp, me.len, me.nd, fun k a l e1 e2 => by
    obtain ⟨ys, h1, h2, h3⟩ := me.at_ k a l e1 e2
    exact ⟨ys, by rw [upd_ne (fun z => hn (by rw [← z]; exact List.mem_of_getElem? e1))]; exact h1, h2.ext (Ext.set hp) Le.refl, h3⟩⟩
theorem Stp.over' {p : Addr} {o : HO} (st : Stp H α H2 α2) (h0 : H p = none) (hx : Ext H2 (L2.upd H2 p o)) (ho : isTbl o = false := by rfl) : Stp H α (L2.upd H2 p o) α2 :=
  ⟨st.ext.trans hx, st.le, st.new, fun a u e z hn => by rw [upd_ne (ne_of_none e h0)]; exact st.keep a u e z hn, fun a u e z => by obtain ⟨o', e', z'⟩ := st.there a u e z; exact upd_there ho a o' e' z'⟩
theorem MemR.beside' {m : Mem} {p : Addr} {o : HO} {u : HO} (me : MemR G H α m) (hp : H p = some u) (z1 : isTbl u = false) (z2 : ∀ q, u ≠ LamX.CodeO p q) (hx : Ext H (L2.upd H p o)) (hn : p ∉ α) : MemR G (L2.upd H p o) α m :=
  ⟨tabs_set me.tab hp z1 z2, me.len, me.nd, fun k a l e1 e2 => by
    obtain ⟨ys, h1, h2, h3⟩ := me.at_ k a l e1 e2
    exact ⟨ys, by rw [upd_ne (fun z => hn (by rw [← z]; exact List.mem_of_getElem? e1))]; exact h1, h2.ext hx Le.refl, h3⟩⟩
theorem Stp.out {p : Addr} {o : HO} (st : Stp H α H2 α2) (hp : H p = some o) (hn : p ∉ α) (ho : isTbl o = false := by rfl) : p ∉ α2 := fun z => by
  rcases st.new p z with q | q
  · exact hn q
  · rw [q o hp] at ho; cases ho
theorem PTs.weak {X : Cx} {e : List Expr} {t t' : TT} (h : PTs X e t) (k : ∀ σ H Q, t' σ H Q → t σ H Q) : PTs X e t' := ⟨fun pins s σ H Q I q => h.run pins s σ H Q I (k _ _ _ q)⟩
theorem ownOf_snd (N : List Str) (own : List Nat) : (ownOf N own).map (·.2) = own := by
  unfold ownOf
  rw [List.map_map]
  exact List.map_id own
theorem okTs {c : E} {N : List Str} {sc : Scope} {ifs : List Expr} (h : (match ifs with
    | [] => (match c with
      | .k (.bl true) => true
      | _ => false)
    | [i] => chkE G.nms N c sc i
    | _ => false) = true) (hc : OkT G lb n c) {X : Cx} {W : WX} (C : CG G lb n N sc W X) : PTs X ifs (tT G n W c) := by
  split at h
  · split at h
    · refine PTs.weak pts_nil fun σ H Q ⟨α, ρ, m, re, me, q⟩ => ?_
      exact Post.ok (v := true) (rel := fun _ _ (b : Bool) (b' : Bool) => b = b') q rfl me
    · cases h
  · exact pts_one (hc N sc _ X W C h)
  · cases h
def cbody (G : Glo) (n : Nat) (own : List Nat) (t : Tg) (c e : E) (ρ : Env) : PV → Mem → R (Option PV) := fun x m => match asg t x (wipeP ρ own) with
  | some ρ' => compT (evE G.pr.con (run G.pr n) c ρ') (evE G.pr.con (run G.pr n) e ρ') m
  | none => .no
theorem compC_len {γ : Type} {rel : Hp → Al → V → γ → Prop} {f : PV → Mem → R (Option PV)} {k N r : Nat} {m : Mem} {g : List PV → Mem → R γ} {Q : VK} {E : EW} (q : Post G rel (bnd (compC f k N r m) g) H α Q E) : ∃ l, m[k]? = some l ∧ l.length = N := by
  cases e : m[k]? with
  | none => cases r <;> (unfold compC at q; simp only [e] at q; exact q.elim)
  | some l =>
    refine ⟨l, rfl, ?_⟩
    by_cases h : l.length = N
    · exact h
    · cases r <;> (unfold compC at q; simp only [e, if_neg h] at q; exact q.elim)
theorem walk_cell {K : PySem.W.Frag} {a : Addr} {n : Nat} : Walk (Itl K a) n (fun H => ∃ xs, H a = some (.lst xs) ∧ xs.length = n) (fun i H x H' => H' = H ∧ ∃ xs, H a = some (.lst xs) ∧ xs[i]? = some x) :=
  ⟨fun i H hi ⟨xs, h, e⟩ => ⟨xs, xs[i]'(by omega), SqL.of h, List.getElem?_eq_getElem _⟩, fun H ⟨xs, h, e⟩ => ⟨xs, SqL.of h, by omega⟩, fun i H x H' hi ⟨xs, h, e⟩ y => ⟨y.1, xs, h, y.2 xs (SqL.of h)⟩⟩
theorem comp_parts {mu : Bool} {own : List Nat} {t : Tg} {s c e : E} (hs : OkI G lb n s) (hc : OkT G lb n c) (he : OkE G lb n e) {N : List Str} {sc : Scope} {X : Cx} {W : WX} {elt tg iter : Expr} {ifs : List Expr} {scope : Scope} {pos : Pos} (C : CG G lb n N sc W X)
    (h : chkE G.nms N (.comp mu own t s c e) sc (.ListComp elt [⟨tg, iter, ifs, 0⟩] scope pos) = true) :
    PI X tg iter (tI G n W s) ∧ BlkOk X.N X.env.scope scope (ownOf N own) ∧ (∀ (s : Shared) (H : Hp) (Ca : Addr) (cl : List (Str × Addr)) (fp : List Addr), PG (X.blk s H scope (compEnvC scope cl Ca X.env) fp) tg (tG G t)) ∧
      (∀ (s : Shared) (H : Hp) (Ca : Addr) (cl : List (Str × Addr)) (fp : List Addr), PTs (X.blk s H scope (compEnvC scope cl Ca X.env) fp) ifs (tT G n (fun _ _ _ _ => False) c)) ∧
      (∀ (s : Shared) (H : Hp) (Ca : Addr) (cl : List (Str × Addr)) (fp : List Addr), PE (X.blk s H scope (compEnvC scope cl Ca X.env) fp) elt (tE G n (fun _ _ _ _ => False) e)) ∧ (∀ x, foldedSetIterable iter X.env x = pure x) ∧
      ∀ σ H Q, tE G n W (.comp mu own t s c e) σ H Q → tLc (tI G n W s) (tG G t) (tT G n (fun _ _ _ _ => False) c) (tE G n (fun _ _ _ _ => False) e) ((ownOf N own).map (·.2)) σ H (LK Q) := by
  unfold chkE at h
  simp only [Bool.and_eq_true, decide_eq_true_eq] at h
  obtain ⟨⟨⟨⟨⟨⟨⟨h0, hst⟩, h1⟩, h2⟩, h3⟩, h4⟩, h5⟩, h6⟩ := h
  have hb : BlkOk X.N X.env.scope scope (ownOf N own) := by rw [C.nm, C.sc]; exact blkOk_by h2
  have hown : ∀ i ∈ t.slots, i ∈ own := fun i hi => by
    have := List.all_eq_true.mp h4 i hi
    simpa using this
  refine ⟨hs N sc iter tg X W C hst h1, hb, fun s H Ca cl fp => (okG_both t (C.blk s H scope hb.kind Ca cl fp) (fun x q => q)).1 h3, fun s H Ca cl fp => okTs h5 hc (C.blk s H scope hb.kind Ca cl fp), fun s H Ca cl fp => he N _ elt _ _ (C.blk s H scope hb.kind Ca cl fp) h6, folded_plain (chk_plain h1), fun σ H Q ⟨α, ρ, m, re, me, q⟩ => ⟨α, ρ, m, re, me, ?_⟩⟩
  rw [ownOf_snd]
  simp only [evE] at q
  refine Post.seq (rel' := GoodJ G) q (fun v m e => by cases v <;> first | rfl | cases e) fun sv m1 J H1 α1 st gj me1 q1 => ?_
  rcases gj with ⟨l, hl, hz, Gd, Y, wk, hGd, hY⟩ | ⟨k, a, rfl, hk, rfl⟩
  rotate_left
  · clear q
    cases e0 : m1[k]? with
    | none =>
      simp only [e0] at q1
      exact q1.elim
    | some l0 =>
      simp only [e0] at q1
      replace q1 : Post G (Rp G) (bnd (compC (cbody G n own t c e ρ) k l0.length l0.length m1) fun vs m => mkl mu vs m) H1 α1 Q (wE W σ) := q1
      obtain ⟨xs0, hx0, rx0, hz⟩ := me1.at_ k a l0 hk e0
      have hz : l0.length ≤ sizeLine := by rw [← Paired.length rx0]; exact hz
      generalize l0.length = N at q1 hz
      intro D hD
      refine lc_it (walk_cell (K := G.K) (a := a) (n := N)) (fun i H2 => ∃ α2 m2 acc av, MemR G H2 α2 m2 ∧ H2 D = some (.lst acc) ∧ D ∉ α2 ∧ RpAll G H2 α2 acc av ∧ acc.length ≤ i ∧ Stp H1 α1 H2 α2 ∧ Post G (Rp G) (bnd (compC (cbody G n own t c e ρ) k N (N - i) m2) fun vs m => mkl mu (av ++ vs) m) H1 α1 Q (wE W σ))
        ⟨α1, m1, [], [], me1.upd hD, upd_same, (fun z => by obtain ⟨ys, q⟩ := me1.mem z; rw [hD] at q; cases q), .nil, Nat.zero_le _, Stp.laid hD, q1⟩
        (fun i H2 _ ⟨α2, m2, acc, av, me2, _, _, _, _, st2, q2⟩ => by
          obtain ⟨l2, e2, e3⟩ := compC_len q2
          obtain ⟨xs, h1, h2, _⟩ := me2.at_ k a l2 (st2.le _ _ hk) e2
          exact ⟨xs, h1, by rw [Paired.length h2]; exact e3⟩) ?_ ?_
      · rintro i x H2 H3 hi ⟨α2, m2, acc, av, me2, hD2, hn2, ra2, hlen, st2, q2⟩ ⟨rfl, xs, hx, hxi⟩
        obtain ⟨l2, e2, e3⟩ := compC_len q2
        obtain ⟨xs', h1, h2, _⟩ := me2.at_ k a l2 (st2.le _ _ hk) e2
        rw [hx] at h1
        cases h1
        have hr : N - i = (N - (i + 1)) + 1 := by omega
        have hr2 : N - (N - (i + 1) + 1) = i := by omega
        rw [hr] at q2
        unfold compC at q2
        simp only [e2, if_pos e3, hr2] at q2
        have hil : i < l2.length := by omega
        obtain ⟨x', hx', rpx⟩ := Paired.get' h2 (List.getElem?_eq_getElem hil)
        rw [hxi] at hx'
        cases hx'
        rw [List.getElem?_eq_getElem hil] at q2
        generalize l2[i] = it at q2 rpx
        simp only [] at q2
        generalize hF : compC (cbody G n own t c e ρ) k N (N - (i + 1)) = F at q2 ⊢
        unfold cbody at q2
        cases ea : asg t it (wipeP ρ own) with
        | none => rw [ea] at q2; exact q2.elim
        | some ρ' =>
          rw [ea] at q2
          refine ⟨α2, wipeP ρ own, it, ρ', ((re.ext st.ext st.le).ext st2.ext st2.le).wipe own, rpx, ea, fun σ2 re2 w2 => ⟨?_, α2, ρ', m2, re2, me2, ?_⟩⟩
          · rw [w2 own hown]
            have key : ∀ (ws : List Nat) (τ : L2.St), (∀ i ∈ ws, i ∈ own) → L2.wipe (L2.wipe τ ws) own = L2.wipe τ own := by
              intro ws τ
              induction ws with
              | nil => intro _; rfl
              | cons w ws ih =>
                intro hw
                show L2.wipe ((L2.wipe τ ws).set w none) own = _
                rw [wipe_set (hw w (by simp)), ih fun i hi => hw i (by simp [hi])]
            exact key own σ fun i hi => hi
          · simp only [compT, bnd_assoc] at q2
            generalize evE G.pr.con (run G.pr n) c ρ' m2 = r1 at q2 ⊢
            cases r1 with
            | no => exact q2.elim
            | exc xn mx => exact q2.elim
            | ok cv m3 =>
              simp only [noexc_ok, bnd_ok] at q2 ⊢
              unfold tstB at q2 ⊢
              cases et : truth m3 cv with
              | none => rw [et] at q2; exact q2.elim
              | some b =>
                rw [et] at q2
                simp only [lft_some, bnd_ok] at q2 ⊢
                intro b' H5 α3 st5 eb me5
                subst eb
                have hD5 := st5.keep D _ hD2 rfl hn2
                have hn5 := st5.out hD2 hn2
                have st15 := st2.trans st5
                have ra5 : RpAll G H5 α3 acc av := ra2.ext st5.ext st5.le
                cases b' with
                | false =>
                  simp only [Bool.false_eq_true, if_false, bnd_ok] at q2 ⊢
                  exact ⟨α3, m3, acc, av, me5, hD5, hn5, ra5, Nat.le_succ_of_le hlen, st15, q2⟩
                | true =>
                  simp only [if_true, bnd_assoc] at q2 ⊢
                  refine ⟨α3, ρ', m3, re2.ext st5.ext st5.le, me5, ?_⟩
                  generalize evE G.pr.con (run G.pr n) e ρ' m3 = r2 at q2 ⊢
                  cases r2 with
                  | no => exact q2.elim
                  | exc xn mx => exact q2.elim
                  | ok v m4 =>
                    simp only [noexc_ok, bnd_ok] at q2
                    intro y6 H6 α4 st6 ry me6
                    have hD6 := st6.keep D _ hD5 rfl hn5
                    have hn6 := st6.out hD5 hn5
                    have ex6 : Ext H6 (L2.upd H6 D (.lst (acc ++ [y6]))) := Ext.set hD6
                    refine ⟨acc, hD6, by omega, α4, m4, acc ++ [y6], av ++ [v], me6.beside hD6 hn6, upd_same, hn6, Paired.append' ((ra5.ext st6.ext st6.le).ext ex6 Le.refl) (.cons (ry.ext ex6 Le.refl) .nil), by simp; omega, (st15.trans st6).over hD hD6, ?_⟩
                    simpa [List.append_assoc] using q2
      · rintro H2 ⟨α2, m2, acc, av, me2, hD2, hn2, ra2, hlen, st2, q2⟩
        obtain ⟨l2, e2, e3⟩ := compC_len q2
        rw [Nat.sub_self] at q2
        unfold compC at q2
        simp only [e2, if_pos e3, bnd_ok, List.append_nil] at q2
        exact LK.mk2 (q2.base st2) hD2 hn2 ⟨H1, α1, hD, st2, q2⟩ ra2 (Nat.le_trans hlen hz) me2
  · skip
    have q1 : Post G (Rp G) (bnd (compL (cbody G n own t c e ρ) l m1) fun vs m => mkl mu vs m) H1 α1 Q (wE W σ) := by
      rcases hl with rfl | rfl
      · exact q1
      · exact q1
    clear q
    intro D hD
    refine lc_it wk (fun i H2 => ∃ α2 m2 acc av, MemR G H2 α2 m2 ∧ H2 D = some (.lst acc) ∧ D ∉ α2 ∧ RpAll G H2 α2 acc av ∧ acc.length ≤ i ∧ Stp H1 α1 H2 α2 ∧ Post G (Rp G) (bnd (compL (cbody G n own t c e ρ) (l.drop i) m2) fun vs m => mkl mu (av ++ vs) m) H1 α1 Q (wE W σ))
      ⟨α1, m1, [], [], me1.upd hD, upd_same, (fun z => by obtain ⟨ys, q⟩ := me1.mem z; rw [hD] at q; cases q), .nil, Nat.zero_le _, Stp.laid hD, q1⟩
      (fun i H2 _ ⟨α2, m2, acc, av, _, _, _, _, _, st2, _⟩ => hGd H2 st2.ext) ?_ ?_
    · rintro i x H2 H3 hi ⟨α2, m2, acc, av, me2, hD2, hn2, ra2, hlen, st2, q2⟩ y
      obtain ⟨hH, it, hit, hf⟩ := hY i H2 x H3 st2.ext hi y
      have st3 : Stp H2 α2 H3 α2 := by
        rcases hH with rfl | ⟨T, o, hT, rfl⟩
        · exact Stp.refl
        · exact Stp.laid hT
      have me3 : MemR G H3 α2 m2 := by
        rcases hH with rfl | ⟨T, o, hT, rfl⟩
        · exact me2
        · exact me2.upd hT
      have hdr : l.drop i = it :: l.drop (i + 1) := by
        obtain ⟨h1, h2⟩ := List.getElem?_eq_some_iff.mp hit
        rw [List.drop_eq_getElem_cons h1, h2]
      rw [hdr] at q2
      unfold compL at q2
      generalize hF : compL (cbody G n own t c e ρ) (l.drop (i + 1)) = F at q2 ⊢
      unfold cbody at q2
      cases ea : asg t it (wipeP ρ own) with
      | none => rw [ea] at q2; exact q2.elim
      | some ρ' =>
        rw [ea] at q2
        have st13 := st2.trans st3
        refine ⟨α2, wipeP ρ own, it, ρ', ((re.ext st.ext st.le).ext st13.ext st13.le).wipe own, .d hf, ea, fun σ2 re2 w2 => ⟨?_, α2, ρ', m2, re2, me3, ?_⟩⟩
        · rw [w2 own hown]
          have key : ∀ (ws : List Nat) (τ : L2.St), (∀ i ∈ ws, i ∈ own) → L2.wipe (L2.wipe τ ws) own = L2.wipe τ own := by
            intro ws τ
            induction ws with
            | nil => intro _; rfl
            | cons w ws ih =>
              intro hw
              show L2.wipe ((L2.wipe τ ws).set w none) own = _
              rw [wipe_set (hw w (by simp)), ih fun i hi => hw i (by simp [hi])]
          exact key own σ fun i hi => hi
        · simp only [compT, bnd_assoc] at q2
          generalize evE G.pr.con (run G.pr n) c ρ' m2 = r1 at q2 ⊢
          cases r1 with
          | no => exact q2.elim
          | exc xn mx => exact q2.elim
          | ok cv m3 =>
            simp only [noexc_ok, bnd_ok] at q2 ⊢
            unfold tstB at q2 ⊢
            cases et : truth m3 cv with
            | none => rw [et] at q2; exact q2.elim
            | some b =>
              rw [et] at q2
              simp only [lft_some, bnd_ok] at q2 ⊢
              intro b' H5 α3 st5 eb me5
              subst eb
              have hD3 := st3.keep D _ hD2 rfl hn2
              have hD5 := st5.keep D _ hD3 rfl hn2
              have hn5 := st5.out hD3 hn2
              have st15 := st13.trans st5
              have ra5 : RpAll G H5 α3 acc av := (ra2.ext st3.ext st3.le).ext st5.ext st5.le
              cases b' with
              | false =>
                simp only [Bool.false_eq_true, if_false, bnd_ok] at q2 ⊢
                exact ⟨α3, m3, acc, av, me5, hD5, hn5, ra5, Nat.le_succ_of_le hlen, st15, q2⟩
              | true =>
                simp only [if_true, bnd_assoc] at q2 ⊢
                refine ⟨α3, ρ', m3, re2.ext st5.ext st5.le, me5, ?_⟩
                generalize evE G.pr.con (run G.pr n) e ρ' m3 = r2 at q2 ⊢
                cases r2 with
                | no => exact q2.elim
                | exc xn mx => exact q2.elim
                | ok v m4 =>
                  simp only [noexc_ok, bnd_ok] at q2
                  intro y6 H6 α4 st6 ry me6
                  have hD6 := st6.keep D _ hD5 rfl hn5
                  have hn6 := st6.out hD5 hn5
                  have ex6 : Ext H6 (L2.upd H6 D (.lst (acc ++ [y6]))) := Ext.set hD6
                  refine ⟨acc, hD6, by omega, α4, m4, acc ++ [y6], av ++ [v], me6.beside hD6 hn6, upd_same, hn6, Paired.append' ((ra5.ext st6.ext st6.le).ext ex6 Le.refl) (.cons (ry.ext ex6 Le.refl) .nil), by simp; omega, (st15.trans st6).over hD hD6, ?_⟩
                  simpa [List.append_assoc] using q2
    · rintro H2 ⟨α2, m2, acc, av, me2, hD2, hn2, ra2, hlen, st2, q2⟩
      rw [List.drop_length] at q2
      unfold compL at q2
      simp only [bnd_ok, List.append_nil] at q2
      exact LK.mk2 (q2.base st2) hD2 hn2 ⟨H1, α1, hD, st2, q2⟩ ra2 (Nat.le_trans hlen hz) me2
theorem ok_comp {mu : Bool} {own : List Nat} {t : Tg} {s c e : E} (hs : OkI G lb n s) (hc : OkT G lb n c) (he : OkE G lb n e) : OkE G lb n (.comp mu own t s c e) := by
  intro N sc ex X W C h
  cases ex with
  | ListComp elt gens scope pos =>
    rcases gens with _ | ⟨⟨tg, iter, ifs, asy⟩, _ | ⟨g2, gs⟩⟩
    · simp only [chkE, Bool.false_eq_true] at h
    · have h0 : asy = 0 := by
        unfold chkE at h
        simp only [Bool.and_eq_true, decide_eq_true_eq] at h
        exact h.1.1.1.1.1.1.1
      subst h0
      obtain ⟨p1, p2, p3, p4, p5, p6, p7⟩ := comp_parts hs hc he C h
      exact PE.weak (PE.lk (pe_lc C.calm (by rw [C.nm]; exact C.nd) p1 p2 p3 p4 p5 p6)) fun σ H Q hq => p7 σ H Q hq
    · simp only [chkE, Bool.false_eq_true] at h
  | _ => simp only [chkE, Bool.false_eq_true] at h
end
end Pv
namespace Pv
open PySem PySem.Spec PyProof.Rows L2
/-! ## zip of three lists -/
def Itz3 (K : PySem.W.Frag) (a b c : Addr) : It :=
  ⟨fun i H => ∃ xs ys zs : List V, SqL K H a xs ∧ SqL K H b ys ∧ SqL K H c zs ∧ i < xs.length ∧ i < ys.length ∧ i < zs.length,
    fun i H v H' => ∃ T x y z, v = .ref T ∧ H T = none ∧ H' = upd H T (.tup [x, y, z]) ∧ (∀ xs, SqL K H a xs → xs[i]? = some x) ∧ (∀ ys, SqL K H b ys → ys[i]? = some y) ∧ ∀ zs, SqL K H c zs → zs[i]? = some z,
    fun i H => ∃ xs ys zs : List V, SqL K H a xs ∧ SqL K H b ys ∧ SqL K H c zs ∧ i = min (min xs.length ys.length) zs.length⟩
def tn3 (z TI TO i1 i2 i3 a b c : Addr) (i : Nat) (h : Heap) : Prop :=
  IsZip h z TI TO .none ∧ IsTupOf3 h TI (.ref i1) (.ref i2) (.ref i3) ∧ (∃ a1 a2 a3, IsTupOf3 h TO a1 a2 a3) ∧ h.IsListIter i1 a i ∧ h.IsListIter i2 b i ∧ h.IsListIter i3 c i
theorem tn3_mem {z TI TO i1 i2 i3 a b c : Addr} {i : Nat} {h : Heap} (st : tn3 z TI TO i1 i2 i3 a b c i h) : ∀ e ∈ [z, TI, TO, i1, i2, i3], ∃ o, h.get? e = some o ∧ ∀ v, o.data ≠ .cell v := fun e he => by
  obtain ⟨hz, hTI, ⟨x, y, u, hTO⟩, ⟨o1, e1, _, d1⟩, ⟨o2, e2, _, d2⟩, ⟨o3, e3, _, d3⟩⟩ := st
  have e' : e = z ∨ e = TI ∨ e = TO ∨ e = i1 ∨ e = i2 ∨ e = i3 := by simpa using he
  rcases e' with q | q | q | q | q | q
  · rw [q]; exact ⟨_, hz, fun v q => nomatch q⟩
  · rw [q]; exact ⟨_, hTI, fun v q => nomatch q⟩
  · rw [q]; exact ⟨_, hTO, fun v q => nomatch q⟩
  · rw [q]; exact ⟨o1, e1, fun v q => by rw [d1] at q; cases q⟩
  · rw [q]; exact ⟨o2, e2, fun v q => by rw [d2] at q; cases q⟩
  · rw [q]; exact ⟨o3, e3, fun v q => by rw [d3] at q; cases q⟩
structure Ap3 (z TI TO i1 i2 i3 a b c : Addr) : Prop where
  S : ZipSep3 z TI TO i1 i2 i3 [i1, a] [i2, b] [i3, c]
theorem Ap3.ne {z TI TO i1 i2 i3 a b c : Addr} (D : Ap3 z TI TO i1 i2 i3 a b c) : (a ≠ i1 → True) := fun _ => trivial
theorem turn_zip3 {P : Program} {w : World} {K : PySem.W.Frag} {elts : List Expr} {kk : Nat} {tpos : Pos} {a b c z TI TO i1 i2 i3 : Addr} (S : ZipSep3 z TI TO i1 i2 i3 [i1, a] [i2, b] [i3, c]) (ha : a ≠ i1) (hb : b ≠ i2) (hc : c ≠ i3) :
    Turn P w K (.Tuple elts kk tpos) (Itz3 K a b c) [z, TI, TO, i1, i2, i3] z (tn3 z TI TO i1 i2 i3 a b c) where
  mem := by simp
  obj := fun i h st e he => tn3_mem st e he
  keep := fun i h h' st k => by
    obtain ⟨hz, hTI, ⟨x, y, u, hTO⟩, h1, h2, h3⟩ := st
    exact ⟨k z (by simp) _ hz, k TI (by simp) _ hTI, ⟨x, y, u, k TO (by simp) _ hTO⟩, h1.at fun o q => k i1 (by simp) o q, h2.at fun o q => k i2 (by simp) o q, h3.at fun o q => k i3 (by simp) o q⟩
  item := by
    intro X hP hw hK hcalm i pins s σ H E I hf st hg
    subst hP hw hK
    obtain ⟨xs, ys, zs, hqx, hqy, hqz, lx, ly, lz⟩ := hg
    obtain ⟨its, rv, p, _⟩ := I.list hqx
    obtain ⟨its2, rv2, p2, _⟩ := I.list hqy
    obtain ⟨its3, rv3, p3, _⟩ := I.list hqz
    have st0 := st
    obtain ⟨hz, hTI, ⟨x0, y0, u0, hTO⟩, h1, h2, h3⟩ := st
    have hh := (I.ok.hd hcalm)
    have W := GoesN.zip3 (elts := elts) (x1 := kk) (pos := tpos) S (Draws.list (prog := X.prog) (w := X.w) (A := X.A.in1) hh i1 a ha its.toArray) (Draws.list (prog := X.prog) (w := X.w) (A := X.A.in1) hh i2 b hb its2.toArray) (Draws.list (prog := X.prog) (w := X.w) (A := X.A.in1) hh i3 c hc its3.toArray)
    have l1 := rv.length
    have l2 := rv2.length
    have l3 := rv3.length
    refine wpAny_mono (W.goes i s (fun u s2 => ∃ x H', Inv X pins σ H' s2 ∧ RelV x u ∧ (Itz3 X.K a b c).yld i H x H' ∧ tn3 z TI TO i1 i2 i3 a b c (i + 1) s2.heap ∧ ∀ e ∈ [z, TI, TO, i1, i2, i3], H' e = none) _ (by simp; omega) ⟨hz, hTI, ⟨_, _, _, hTO⟩, ⟨h1, p.isList⟩, ⟨h2, p2.isList⟩, h3, p3.isList⟩ fun v h' tk hY st' hk htk => ?_) (fun r s1 q => q) fun _ _ e => e
    obtain ⟨T, x, y, u, rfl, hT, px, py, pu, hIs⟩ := hY
    obtain ⟨hz', hTI', ⟨x1, y1, u1, hTO'⟩, ⟨h1', _⟩, ⟨h2', _⟩, h3', _⟩ := st'
    have kx : xs[i]? = some xs[i] := List.getElem?_eq_getElem lx
    have ky : ys[i]? = some ys[i] := List.getElem?_eq_getElem ly
    have kz : zs[i]? = some zs[i] := List.getElem?_eq_getElem lz
    obtain ⟨w1, hw1, rw1⟩ := rv.get kx
    obtain ⟨w2, hw2, rw2⟩ := rv2.get ky
    obtain ⟨w3, hw3, rw3⟩ := rv3.get kz
    have e1 : x = w1 := by simp [hw1] at px; exact px.symm
    have e2 : y = w2 := by simp [hw2] at py; exact py.symm
    have e3 : u = w3 := by simp [hw3] at pu; exact pu.symm
    subst e1 e2 e3
    have new : ObjOk X.prog X.w (upd H T (.tup [xs[i], ys[i], zs[i]])) h' T (.tup [xs[i], ys[i], zs[i]]) :=
      ⟨by show 3 ≤ sizeLine; decide, [x, y, u], .cons rw1 (.cons rw2 (.cons rw3 .nil)), hIs⟩
    have I1 : Inv X pins σ (upd H T (.tup [xs[i], ys[i], zs[i]])) { s with heap := h', toks := tk } :=
      I.turnedNew (t' := tk) (ch := [z, TI, TO, i1, i2, i3]) (fun e o hb q => hk e o (fun q' => hb (by simp at q' ⊢; rcases q' with q' | q' | q' | q' | q' <;> simp [q'])) q) hf hT new
    refine ⟨.ref T, _, I1, rfl, ⟨_, _, _, _, rfl, I.hok.fresh hT, rfl, fun l hl => by rw [I.list_inj hl hqx]; exact kx, fun l hl => by rw [I.list_inj hl hqy]; exact ky, fun l hl => by rw [I.list_inj hl hqz]; exact kz⟩, ⟨hz', hTI', ⟨_, _, _, hTO'⟩, h1', h2', h3'⟩, fun e he => ?_⟩
    obtain ⟨o, ho, _⟩ := tn3_mem st0 e he
    rw [upd_ne (Nat.ne_of_lt (Nat.lt_of_lt_of_le (Heap.lt_size ho) hT))]
    exact (hf e he).1
  done := by
    intro X hP hw hK hcalm i pins s σ H E I hf st hg
    subst hP hw hK
    obtain ⟨xs, ys, zs, hqx, hqy, hqz, hi⟩ := hg
    obtain ⟨its, rv, p, _⟩ := I.list hqx
    obtain ⟨its2, rv2, p2, _⟩ := I.list hqy
    obtain ⟨its3, rv3, p3, _⟩ := I.list hqz
    obtain ⟨hz, hTI, ⟨x0, y0, u0, hTO⟩, h1, h2, h3⟩ := st
    have hh := (I.ok.hd hcalm)
    have W := GoesN.zip3 (elts := elts) (x1 := kk) (pos := tpos) S (Draws.list (prog := X.prog) (w := X.w) (A := X.A.in1) hh i1 a ha its.toArray) (Draws.list (prog := X.prog) (w := X.w) (A := X.A.in1) hh i2 b hb its2.toArray) (Draws.list (prog := X.prog) (w := X.w) (A := X.A.in1) hh i3 c hc its3.toArray)
    have e : i = min (min its.toArray.size its2.toArray.size) its3.toArray.size := by
      have l1 := rv.length
      have l2 := rv2.length
      have l3 := rv3.length
      simp
      omega
    rw [e] at h1 h2 h3
    exact W.stops s _ _ ⟨hz, hTI, ⟨_, _, _, hTO⟩, ⟨h1, p.isList⟩, ⟨h2, p2.isList⟩, h3, p3.isList⟩ fun h' tk hk htk => I.turnedL (t' := tk) (ch := [z, TI, TO, i1, i2, i3]) (fun e o hb q => hk e o (fun q' => hb (by simp at q' ⊢; rcases q' with q' | q' | q' | q' | q' <;> simp [q'])) q) hf
  self := fun A i s Q E st h => wpAny_pyIter_zip st.1 h
def iZip3 (K : PySem.W.Frag) (ta : TA) : TI := fun σ H R => ta σ H fun vs H1 => ∃ a b c xs ys zs, vs = [.ref a, .ref b, .ref c] ∧ SqL K H1 a xs ∧ SqL K H1 b ys ∧ SqL K H1 c zs ∧ R (Itz3 K a b c) H1
theorem pi_zip3 {X : Cx} {e e2 e3 : Expr} {ta : TA} {p pos tpos : Pos} {elts : List Expr} {kk : Nat} (hg : Gl X "zip") (hm : X.mg "zip" = none) (ha : PA X [e, e2, e3] ta)
    (hs : starEach [e, e2, e3] X.env = (false, eval e X.env) :: starEach [e2, e3] X.env := by rfl) (hpl : (backTo pos (starEach [e2, e3] X.env)).any (·.1) = false := by rfl) :
    PI X (.Tuple elts kk tpos) (.Call (.Name "zip" p) [e, e2, e3] [] pos) (iZip3 X.K ta) := by
  refine ⟨fun pins s σ H R I h => ?_⟩
  refine Call_ (ld_blt I hg hm PyProof.Rows.boot_zip (PyProof.Rows.callWith_type1 (thn (ha.run pos pins s σ H _ I h) fun us s1 ⟨vs, H1, I1, r1, q1⟩ => ?_) hs hpl))
  obtain ⟨a, b, c, xs, ys, zs, ex, hqx, hqy, hqz, q⟩ := q1
  subst ex
  cases r1 with
  | cons r rr =>
    cases rr with
    | cons r' rr =>
      cases rr with
      | cons r'' rr =>
        cases rr
        cases r
        cases r'
        cases r''
        obtain ⟨its, rv, p1, _⟩ := I1.list hqx
        obtain ⟨its2, rv2, p2, _⟩ := I1.list hqy
        obtain ⟨its3, rv3, p3, _⟩ := I1.list hqz
        have g1 := p1.lt
        have g2 := p2.lt
        have g3 := p3.lt
        have fresh : ∀ e, e ∈ [s1.heap.objs.size + 5, s1.heap.objs.size + 3, s1.heap.objs.size + 4, s1.heap.objs.size, s1.heap.objs.size + 1, s1.heap.objs.size + 2] → FpOk X pins H1 e := fun e he => by
          have hle : s1.heap.objs.size ≤ e := by
            simp at he
            rcases he with z | z | z | z | z | z <;> rw [z] <;> first | exact Nat.le_refl _ | exact Nat.le_add_right _ _
          exact I1.fpOk hle (I1.hok.fresh hle)
        refine zip_begins3 (begins_list a its.toArray) (begins_list b its2.toArray) (begins_list c its3.toArray) p1.isList p2.isList p3.isList fun h' hz hTI hTO o1 o2 o3 hsz hk => wpAny_pyIter_zip hz ?_
        have I2 : Inv X pins σ H1 { s1 with heap := h' } := I1.kept (t' := s1.toks) hk
        refine ⟨s1.heap.objs.size + 5, [s1.heap.objs.size + 5, s1.heap.objs.size + 3, s1.heap.objs.size + 4, s1.heap.objs.size, s1.heap.objs.size + 1, s1.heap.objs.size + 2], _, _, H1, rfl, I2,
          turn_zip3 (zip_sep3 (N := s1.heap.objs.size) (fp1 := [a]) (fp2 := [b]) (fp3 := [c]) (by simpa using g1) (by simpa using g2) (by simpa using g3)) (Nat.ne_of_lt g1) (Nat.ne_of_lt (Nat.lt_of_lt_of_le g2 (Nat.le_add_right _ _))) (Nat.ne_of_lt (Nat.lt_of_lt_of_le g3 (Nat.le_add_right _ _))),
          ⟨hz, hTI, ⟨_, _, _, hTO⟩, ⟨_, o1, rfl, rfl⟩, ⟨_, o2, rfl, rfl⟩, ⟨_, o3, rfl, rfl⟩⟩, fresh, q⟩
end Pv
namespace Pv
open PySem PySem.Spec PyProof.Rows L2
/-! ## enumerate of a tuple -/
def tupIt (t : Addr) : Obj := { cls := .type "tuple_iterator", data := .fields #[.ref t, .int 0 0] }
def enuOb (a : Addr) : Obj := { cls := .type "enumerate", data := .fields #[.none, .bool false, .ref a, rawInt 0, .none, .none] }
theorem enuT_new (t : Addr) (items : Array Value) (n : Nat) (dct : Option Addr) (sl : Array (Option Value)) :
    Meets (Builtin.«enumerate.__new__» ⟨[.type "enumerate", .ref t], []⟩) (fun _ R s => s.heap.get? t = some { cls := .type "tuple", dict := dct, data := .seq items n, slots := sl } ∧
      R (.ok (.ret (.ref (s.heap.push (tupIt t)).objs.size))) { s with heap := (s.heap.push (tupIt t)).push (enuOb s.heap.objs.size) }) :=
  .of_wp fun prog w A R s h => by
    obtain ⟨hp, g, d, tk, os⟩ := s
    obtain ⟨ht, h⟩ := h
    have below := sub_enumerate
    have hT : Heap.IsTuple (Shared.heap ⟨hp, g, d, tk, os⟩) t items := ⟨_, ht, rfl, n, rfl⟩
    wp_walk using AutoSeq1.wpAny_loadPart' ht
    refine wpAny_stack_any fun st => wpAny_pure ?_
    split
    · rename_i c _ _ _ _ _
      cases (c == Value.type "enumerate")
      · wp_walk using AutoSeq1.wpAny_loadPart' ht, wpAny_pyIter_tuple hT
        exact ⟨_, rfl, h⟩
      · wp_walk using AutoSeq1.wpAny_loadPart' ht, wpAny_pyIter_tuple hT
        exact ⟨_, rfl, h⟩
    · wp_walk using AutoSeq1.wpAny_loadPart' ht, wpAny_pyIter_tuple hT
      exact ⟨_, rfl, h⟩
section
variable {prog : Program} {w : World} {A : Around} {E : Value → Shared → Prop} {s : Shared}
theorem enuT_call {t : Addr} {items : Array Value} {Q : Value → Shared → Prop} (hT : s.heap.IsTuple t items)
    (h : ∀ h', IsEnum h' (s.heap.objs.size + 1) s.heap.objs.size 0 .none → h'.IsTupleIter s.heap.objs.size t 0 → (∀ b o, s.heap.get? b = some o → h'.get? b = some o) → Q (.ref (s.heap.objs.size + 1)) { s with heap := h' }) :
    wpAny (model prog w) A (call (.type "enumerate") [.ref t]) Q E s := by
  obtain ⟨⟨c, dct, dt, sl⟩, ht, hc, n, hd⟩ := hT
  have hc : c = .type "tuple" := hc
  have hd : dt = .seq items n := hd
  subst hc hd
  refine callType_new F.called_enumerate (by decide) (F.typeCall_enumerate_1 _) (F.newCall_enumerate_1 _) (fun obj => F.args_object_init_2 obj _) F.entry_enumerate_new (enuT_new t items n dct sl) ⟨ht, ?_⟩
  have hz : (s.heap.push (tupIt t)).objs.size = s.heap.objs.size + 1 := Heap.size_push ..
  have he : IsEnum ((s.heap.push (tupIt t)).push (enuOb s.heap.objs.size)) (s.heap.objs.size + 1) s.heap.objs.size 0 .none := by
    have q := Heap.get?_push_size (s.heap.push (tupIt t)) (o := enuOb s.heap.objs.size) rfl
    rw [hz] at q
    exact q
  show _ ∧ _
  rw [hz]
  exact ⟨⟨_, he, rfl⟩, h _ he ⟨_, Heap.get?_push_of_some _ (Heap.get?_push_size _ rfl), rfl, rfl⟩ fun b o x => Heap.get?_push_of_some _ (Heap.get?_push_of_some _ x)⟩
end
def IteT (K : PySem.W.Frag) (a : Addr) : It :=
  ⟨fun i H => ∃ xs : List V, SqT K H a xs ∧ i < xs.length,
    fun i H v H' => ∃ T x, v = .ref T ∧ H T = none ∧ H' = upd H T (.tup [.int (i : Nat), x]) ∧ ∀ xs, SqT K H a xs → xs[i]? = some x,
    fun i H => ∃ xs : List V, SqT K H a xs ∧ i = xs.length⟩
def tnE (e it a : Addr) (i : Nat) (h : Heap) : Prop := (∃ old, IsEnum h e it ((i : Nat) : Int) old) ∧ h.IsTupleIter it a i
theorem turn_enuT {P : Program} {w : World} {K : PySem.W.Frag} {elts : List Expr} {kk : Nat} {tpos : Pos} {a e it : Addr} (hei : e ≠ it) (hea : e ≠ a) (hai : a ≠ it) :
    Turn P w K (.Tuple elts kk tpos) (IteT K a) [e, it] e (tnE e it a) where
  mem := by simp
  obj := fun i h st b hb => by
    obtain ⟨⟨old, he⟩, ⟨o, ho, _, hd⟩⟩ := st
    rcases List.mem_cons.mp hb with z | hb
    · subst z
      exact ⟨_, he, fun v q => nomatch q⟩
    · exact ⟨o, (List.mem_singleton.mp hb) ▸ ho, fun v q => by rw [hd] at q; cases q⟩
  keep := fun i h h' st k => by
    obtain ⟨⟨old, he⟩, hi⟩ := st
    exact ⟨⟨old, k e (by simp) _ he⟩, hi.at fun o q => k it (by simp) o q⟩
  item := by
    intro X hP hw hK hcalm i pins s σ H E I hf st hg
    subst hP hw hK
    obtain ⟨xs, hq, lx⟩ := hg
    obtain ⟨its, rv, p, _⟩ := I.tuple hq
    obtain ⟨⟨old, he⟩, hit⟩ := st
    have lv := rv.length
    have hlt1 : e < s.heap.objs.size := Heap.lt_size he
    have hlt2 : it < s.heap.objs.size := by obtain ⟨o, ho, _⟩ := id hit; exact Heap.lt_size ho
    have W := GoesN.enumFrom (elts := elts) (x1 := kk) (pos := tpos) 0 (Draws.tuple (prog := X.prog) (w := X.w) (A := X.A.in1) (I.ok.hd hcalm) it a hai its.toArray) e hei (by simp; exact ⟨hei, hea⟩) (by simp)
    refine wpAny_mono (W.goes i s (fun u s2 => ∃ x H', Inv X pins σ H' s2 ∧ RelV x u ∧ (IteT X.K a).yld i H x H' ∧ tnE e it a (i + 1) s2.heap ∧ ∀ b ∈ [e, it], H' b = none) _ (by simp; omega) ⟨⟨old, by simpa using he⟩, hit, p⟩ fun v h' tk hY st' hk htk => ?_) (fun r s1 q => q) fun _ _ q => q
    obtain ⟨T, tt, x, rfl, hT, px, hIs⟩ := hY
    obtain ⟨⟨old', he'⟩, hit', _⟩ := st'
    have kx : xs[i]? = some xs[i] := List.getElem?_eq_getElem lx
    obtain ⟨w1, hw1, rw1⟩ := rv.get kx
    have e1 : x = w1 := by simp [hw1] at px; exact px.symm
    subst e1
    have new : ObjOk X.prog X.w (upd H T (.tup [.int (i : Nat), xs[i]])) h' T (.tup [.int (i : Nat), xs[i]]) :=
      ⟨by show 2 ≤ sizeLine; decide, [.int (i : Nat) tt, x], .cons ⟨_, rfl⟩ (.cons rw1 .nil), by rw [Int.zero_add] at hIs; exact hIs⟩
    have I1 : Inv X pins σ (upd H T (.tup [.int (i : Nat), xs[i]])) { s with heap := h', toks := tk } := I.turnedNew (t' := tk) (ch := [e, it]) (fun b o hb q => hk b o hb q) hf hT new
    refine ⟨.ref T, _, I1, rfl, ⟨_, _, rfl, I.hok.fresh hT, rfl, fun l hl => by rw [I.tuple_inj hl hq]; exact kx⟩, ⟨⟨old', ?_⟩, hit'⟩, fun b hb => ?_⟩
    · have z : ((i + 1 : Nat) : Int) = 0 + ((i + 1 : Nat) : Int) := by omega
      rw [z]
      exact he'
    · have hb' : b < s.heap.objs.size := by
        rcases List.mem_cons.mp hb with z | hb
        · exact z ▸ hlt1
        · exact (List.mem_singleton.mp hb) ▸ hlt2
      rw [upd_ne (Nat.ne_of_lt (Nat.lt_of_lt_of_le hb' hT))]
      exact (hf b hb).1
  done := by
    intro X hP hw hK hcalm i pins s σ H E I hf st hg
    subst hP hw hK
    obtain ⟨xs, hq, hi⟩ := hg
    obtain ⟨its, rv, p, _⟩ := I.tuple hq
    obtain ⟨⟨old, he⟩, hit⟩ := st
    have lv := rv.length
    have W := GoesN.enumFrom (elts := elts) (x1 := kk) (pos := tpos) 0 (Draws.tuple (prog := X.prog) (w := X.w) (A := X.A.in1) (I.ok.hd hcalm) it a hai its.toArray) e hei (by simp; exact ⟨hei, hea⟩) (by simp)
    have z : i = its.toArray.size := by simp; omega
    rw [z] at he hit
    exact W.stops s _ _ ⟨⟨old, by simpa using he⟩, hit, p⟩ fun h' tk hk htk => I.turnedL (t' := tk) (ch := [e, it]) (fun b o hb q => hk b o hb q) hf
  self := fun A i s Q E st h => by
    obtain ⟨⟨old, he⟩, _⟩ := st
    exact wpAny_pyIter_enum he h
/-- of a list or a tuple -/
def iEnuA (K : PySem.W.Frag) (ta : TA) : TI := fun σ H R => ta σ H fun vs H1 => ∃ a xs, vs = [.ref a] ∧ ((SqL K H1 a xs ∧ R (Ite K a) H1) ∨ (SqT K H1 a xs ∧ R (IteT K a) H1))
theorem pi_enuA {X : Cx} {e : Expr} {ta : TA} {p pos tpos : Pos} {elts : List Expr} {kk : Nat} (hg : Gl X "enumerate") (hm : X.mg "enumerate" = none) (ha : PA X [e] ta) (hs : starEach [e] X.env = [(false, eval e X.env)] := by rfl) :
    PI X (.Tuple elts kk tpos) (.Call (.Name "enumerate" p) [e] [] pos) (iEnuA X.K ta) := by
  refine ⟨fun pins s σ H R I h => ?_⟩
  refine Call_ (ld_blt I hg hm boot_enumerate (PyProof.Rows.callWith_type1 (thn (ha.run pos pins s σ H _ I h) fun us s1 ⟨vs, H1, I1, r1, q1⟩ => ?_) hs rfl))
  obtain ⟨a, xs, ex, q1⟩ := q1
  subst ex
  cases r1 with
  | cons r rr =>
    cases rr
    cases r
    have fresh : ∀ b ∈ [s1.heap.objs.size + 1, s1.heap.objs.size], FpOk X pins H1 b := fun b hb => by
      have hle : s1.heap.objs.size ≤ b := by
        rcases List.mem_cons.mp hb with z | hb
        · exact z ▸ Nat.le_add_right _ _
        · exact (List.mem_singleton.mp hb) ▸ Nat.le_refl _
      exact I1.fpOk hle (I1.hok.fresh hle)
    rcases q1 with ⟨hq, q⟩ | ⟨hq, q⟩
    · obtain ⟨its, rv, p', _⟩ := I1.list hq
      refine call_enumerate_list p'.isList fun h' he hit _ hk => wpAny_pyIter_enum he ?_
      exact ⟨_, _, _, _, H1, rfl, I1.kept (t' := s1.toks) hk, turn_enum a (s1.heap.objs.size + 1) s1.heap.objs.size, ⟨⟨.none, he⟩, hit, Nat.succ_ne_self _⟩, fresh, q⟩
    · obtain ⟨its, rv, p', _⟩ := I1.tuple hq
      have g1 : a < s1.heap.objs.size := by obtain ⟨o, ho, _⟩ := id p'; exact Heap.lt_size ho
      refine enuT_call p' fun h' he hit hk => wpAny_pyIter_enum he ?_
      exact ⟨_, _, _, _, H1, rfl, I1.kept (t' := s1.toks) hk, turn_enuT (Nat.succ_ne_self _) (Nat.ne_of_gt (Nat.lt_succ_of_lt g1)) (Nat.ne_of_lt g1), ⟨⟨.none, he⟩, hit⟩, fresh, q⟩
end Pv
namespace Pv
open PySem PySem.Spec PyProof.Rows L2
/-! ## zip of two, lists or tuples (printed by mkSZ3.py) -/
def Zill (K : PySem.W.Frag) (a b : Addr) : It :=
  ⟨fun i H => ∃ xs ys : List V, SqL K H a xs ∧ SqL K H b ys ∧ i < xs.length ∧ i < ys.length,
    fun i H v H' => ∃ T x y, v = .ref T ∧ H T = none ∧ H' = upd H T (.tup [x, y]) ∧ (∀ xs, SqL K H a xs → xs[i]? = some x) ∧ ∀ ys, SqL K H b ys → ys[i]? = some y,
    fun i H => ∃ xs ys : List V, SqL K H a xs ∧ SqL K H b ys ∧ i = min xs.length ys.length⟩
def zsll (z TI TO i1 i2 a b : Addr) (i : Nat) (h : Heap) : Prop :=
  IsZip h z TI TO .none ∧ IsTupOf2 h TI (.ref i1) (.ref i2) ∧ (∃ a1 a2, IsTupOf2 h TO a1 a2) ∧ h.IsListIter i1 a i ∧ h.IsListIter i2 b i
theorem zsll_mem {z TI TO i1 i2 a b : Addr} {i : Nat} {h : Heap} (st : zsll z TI TO i1 i2 a b i h) : ∀ e ∈ [z, TI, TO, i1, i2], ∃ o, h.get? e = some o ∧ ∀ v, o.data ≠ .cell v := fun e he => by
  obtain ⟨hz, hTI, ⟨x, y, hTO⟩, ⟨o1, e1, _, d1⟩, ⟨o2, e2, _, d2⟩⟩ := st
  have e' : e = z ∨ e = TI ∨ e = TO ∨ e = i1 ∨ e = i2 := by simpa using he
  rcases e' with q | q | q | q | q
  · rw [q]; exact ⟨_, hz, fun v q => nomatch q⟩
  · rw [q]; exact ⟨_, hTI, fun v q => nomatch q⟩
  · rw [q]; exact ⟨_, hTO, fun v q => nomatch q⟩
  · rw [q]; exact ⟨o1, e1, fun v q => by rw [d1] at q; cases q⟩
  · rw [q]; exact ⟨o2, e2, fun v q => by rw [d2] at q; cases q⟩
theorem turn_zll {P : Program} {w : World} {K : PySem.W.Frag} {elts : List Expr} {kk : Nat} {tpos : Pos} {a b z TI TO i1 i2 : Addr} (S : ZipSep2 z TI TO i1 i2 [i1, a] [i2, b]) (ha : a ≠ i1) (hb : b ≠ i2) :
    Turn P w K (.Tuple elts kk tpos) (Zill K a b) [z, TI, TO, i1, i2] z (zsll z TI TO i1 i2 a b) where
  mem := by simp
  obj := fun i h st e he => zsll_mem st e he
  keep := fun i h h' st k => by
    obtain ⟨hz, hTI, ⟨x, y, hTO⟩, h1, h2⟩ := st
    exact ⟨k z (by simp) _ hz, k TI (by simp) _ hTI, ⟨x, y, k TO (by simp) _ hTO⟩, h1.at fun o q => k i1 (by simp) o q, h2.at fun o q => k i2 (by simp) o q⟩
  item := by
    intro X hP hw hK hcalm i pins s σ H E I hf st hg
    subst hP hw hK
    obtain ⟨xs, ys, hqx, hqy, lx, ly⟩ := hg
    obtain ⟨its, rv, p, _⟩ := I.list hqx
    obtain ⟨its2, rv2, p2, _⟩ := I.list hqy
    have st0 := st
    obtain ⟨hz, hTI, ⟨x0, y0, hTO⟩, h1, h2⟩ := st
    have hh := (I.ok.hd hcalm)
    have W := GoesN.zip2 (elts := elts) (x1 := kk) (pos := tpos) S (Draws.list (prog := X.prog) (w := X.w) (A := X.A.in1) hh i1 a ha its.toArray) (Draws.list (prog := X.prog) (w := X.w) (A := X.A.in1) hh i2 b hb its2.toArray)
    have l1 := rv.length
    have l2 := rv2.length
    refine wpAny_mono (W.goes i s (fun u s2 => ∃ x H', Inv X pins σ H' s2 ∧ RelV x u ∧ (Zill X.K a b).yld i H x H' ∧ zsll z TI TO i1 i2 a b (i + 1) s2.heap ∧ ∀ e ∈ [z, TI, TO, i1, i2], H' e = none) _ (by simp; omega) ⟨hz, hTI, ⟨_, _, hTO⟩, ⟨h1, p.isList⟩, h2, p2.isList⟩ fun v h' tk hY st' hk htk => ?_) (fun r s1 q => q) fun _ _ e => e
    obtain ⟨T, x, y, rfl, hT, px, py, hIs⟩ := hY
    obtain ⟨hz', hTI', ⟨x1, y1, hTO'⟩, ⟨h1', _⟩, h2', _⟩ := st'
    have kx : xs[i]? = some xs[i] := List.getElem?_eq_getElem lx
    have ky : ys[i]? = some ys[i] := List.getElem?_eq_getElem ly
    obtain ⟨w1, hw1, rw1⟩ := rv.get kx
    obtain ⟨w2, hw2, rw2⟩ := rv2.get ky
    have e1 : x = w1 := by simp [hw1] at px; exact px.symm
    have e2 : y = w2 := by simp [hw2] at py; exact py.symm
    subst e1 e2
    have new : ObjOk X.prog X.w (upd H T (.tup [xs[i], ys[i]])) h' T (.tup [xs[i], ys[i]]) :=
      ⟨by show 2 ≤ sizeLine; decide, [x, y], .cons rw1 (.cons rw2 .nil), hIs⟩
    have I1 : Inv X pins σ (upd H T (.tup [xs[i], ys[i]])) { s with heap := h', toks := tk } :=
      I.turnedNew (t' := tk) (ch := [z, TI, TO, i1, i2]) (fun e o hb q => hk e o (fun q' => hb (by simp at q' ⊢; rcases q' with q' | q' | q' | q' <;> simp [q'])) q) hf hT new
    refine ⟨.ref T, _, I1, rfl, ⟨_, _, _, rfl, I.hok.fresh hT, rfl, fun l hl => by rw [I.list_inj hl hqx]; exact kx, fun l hl => by rw [I.list_inj hl hqy]; exact ky⟩, ⟨hz', hTI', ⟨_, _, hTO'⟩, h1', h2'⟩, fun e he => ?_⟩
    obtain ⟨o, ho, _⟩ := zsll_mem st0 e he
    rw [upd_ne (Nat.ne_of_lt (Nat.lt_of_lt_of_le (Heap.lt_size ho) hT))]
    exact (hf e he).1
  done := by
    intro X hP hw hK hcalm i pins s σ H E I hf st hg
    subst hP hw hK
    obtain ⟨xs, ys, hqx, hqy, hi⟩ := hg
    obtain ⟨its, rv, p, _⟩ := I.list hqx
    obtain ⟨its2, rv2, p2, _⟩ := I.list hqy
    obtain ⟨hz, hTI, ⟨x0, y0, hTO⟩, h1, h2⟩ := st
    have hh := (I.ok.hd hcalm)
    have W := GoesN.zip2 (elts := elts) (x1 := kk) (pos := tpos) S (Draws.list (prog := X.prog) (w := X.w) (A := X.A.in1) hh i1 a ha its.toArray) (Draws.list (prog := X.prog) (w := X.w) (A := X.A.in1) hh i2 b hb its2.toArray)
    have e : i = min its.toArray.size its2.toArray.size := by
      have l1 := rv.length
      have l2 := rv2.length
      simp
      omega
    rw [e] at h1 h2
    exact W.stops s _ _ ⟨hz, hTI, ⟨_, _, hTO⟩, ⟨h1, p.isList⟩, h2, p2.isList⟩ fun h' tk hk htk => I.turnedL (t' := tk) (ch := [z, TI, TO, i1, i2]) (fun e o hb q => hk e o (fun q' => hb (by simp at q' ⊢; rcases q' with q' | q' | q' | q' <;> simp [q'])) q) hf
  self := fun A i s Q E st h => wpAny_pyIter_zip st.1 h
theorem walk_zll {K : PySem.W.Frag} {a b : Addr} {xs ys : List V} : Walk (Zill K a b) (min xs.length ys.length) (fun H => SqL K H a xs ∧ SqL K H b ys) (YPair (fun i => xs[i]?) (fun i => ys[i]?)) :=
  ⟨fun i H hi q => ⟨_, _, q.1, q.2, by omega, by omega⟩, fun H q => ⟨_, _, q.1, q.2, rfl⟩, fun i H x H' hi q ⟨T, u, v, h1, h2, h3, h4, h5⟩ => ⟨T, u, v, h1, h2, h3, h4 _ q.1, h5 _ q.2⟩⟩
def Zilt (K : PySem.W.Frag) (a b : Addr) : It :=
  ⟨fun i H => ∃ xs ys : List V, SqL K H a xs ∧ SqT K H b ys ∧ i < xs.length ∧ i < ys.length,
    fun i H v H' => ∃ T x y, v = .ref T ∧ H T = none ∧ H' = upd H T (.tup [x, y]) ∧ (∀ xs, SqL K H a xs → xs[i]? = some x) ∧ ∀ ys, SqT K H b ys → ys[i]? = some y,
    fun i H => ∃ xs ys : List V, SqL K H a xs ∧ SqT K H b ys ∧ i = min xs.length ys.length⟩
def zslt (z TI TO i1 i2 a b : Addr) (i : Nat) (h : Heap) : Prop :=
  IsZip h z TI TO .none ∧ IsTupOf2 h TI (.ref i1) (.ref i2) ∧ (∃ a1 a2, IsTupOf2 h TO a1 a2) ∧ h.IsListIter i1 a i ∧ h.IsTupleIter i2 b i
theorem zslt_mem {z TI TO i1 i2 a b : Addr} {i : Nat} {h : Heap} (st : zslt z TI TO i1 i2 a b i h) : ∀ e ∈ [z, TI, TO, i1, i2], ∃ o, h.get? e = some o ∧ ∀ v, o.data ≠ .cell v := fun e he => by
  obtain ⟨hz, hTI, ⟨x, y, hTO⟩, ⟨o1, e1, _, d1⟩, ⟨o2, e2, _, d2⟩⟩ := st
  have e' : e = z ∨ e = TI ∨ e = TO ∨ e = i1 ∨ e = i2 := by simpa using he
  rcases e' with q | q | q | q | q
  · rw [q]; exact ⟨_, hz, fun v q => nomatch q⟩
  · rw [q]; exact ⟨_, hTI, fun v q => nomatch q⟩
  · rw [q]; exact ⟨_, hTO, fun v q => nomatch q⟩
  · rw [q]; exact ⟨o1, e1, fun v q => by rw [d1] at q; cases q⟩
  · rw [q]; exact ⟨o2, e2, fun v q => by rw [d2] at q; cases q⟩
theorem turn_zlt {P : Program} {w : World} {K : PySem.W.Frag} {elts : List Expr} {kk : Nat} {tpos : Pos} {a b z TI TO i1 i2 : Addr} (S : ZipSep2 z TI TO i1 i2 [i1, a] [i2, b]) (ha : a ≠ i1) (hb : b ≠ i2) :
    Turn P w K (.Tuple elts kk tpos) (Zilt K a b) [z, TI, TO, i1, i2] z (zslt z TI TO i1 i2 a b) where
  mem := by simp
  obj := fun i h st e he => zslt_mem st e he
  keep := fun i h h' st k => by
    obtain ⟨hz, hTI, ⟨x, y, hTO⟩, h1, h2⟩ := st
    exact ⟨k z (by simp) _ hz, k TI (by simp) _ hTI, ⟨x, y, k TO (by simp) _ hTO⟩, h1.at fun o q => k i1 (by simp) o q, h2.at fun o q => k i2 (by simp) o q⟩
  item := by
    intro X hP hw hK hcalm i pins s σ H E I hf st hg
    subst hP hw hK
    obtain ⟨xs, ys, hqx, hqy, lx, ly⟩ := hg
    obtain ⟨its, rv, p, _⟩ := I.list hqx
    obtain ⟨its2, rv2, p2, _⟩ := I.tuple hqy
    have st0 := st
    obtain ⟨hz, hTI, ⟨x0, y0, hTO⟩, h1, h2⟩ := st
    have hh := (I.ok.hd hcalm)
    have W := GoesN.zip2 (elts := elts) (x1 := kk) (pos := tpos) S (Draws.list (prog := X.prog) (w := X.w) (A := X.A.in1) hh i1 a ha its.toArray) (Draws.tuple (prog := X.prog) (w := X.w) (A := X.A.in1) hh i2 b hb its2.toArray)
    have l1 := rv.length
    have l2 := rv2.length
    refine wpAny_mono (W.goes i s (fun u s2 => ∃ x H', Inv X pins σ H' s2 ∧ RelV x u ∧ (Zilt X.K a b).yld i H x H' ∧ zslt z TI TO i1 i2 a b (i + 1) s2.heap ∧ ∀ e ∈ [z, TI, TO, i1, i2], H' e = none) _ (by simp; omega) ⟨hz, hTI, ⟨_, _, hTO⟩, ⟨h1, p.isList⟩, h2, p2⟩ fun v h' tk hY st' hk htk => ?_) (fun r s1 q => q) fun _ _ e => e
    obtain ⟨T, x, y, rfl, hT, px, py, hIs⟩ := hY
    obtain ⟨hz', hTI', ⟨x1, y1, hTO'⟩, ⟨h1', _⟩, h2', _⟩ := st'
    have kx : xs[i]? = some xs[i] := List.getElem?_eq_getElem lx
    have ky : ys[i]? = some ys[i] := List.getElem?_eq_getElem ly
    obtain ⟨w1, hw1, rw1⟩ := rv.get kx
    obtain ⟨w2, hw2, rw2⟩ := rv2.get ky
    have e1 : x = w1 := by simp [hw1] at px; exact px.symm
    have e2 : y = w2 := by simp [hw2] at py; exact py.symm
    subst e1 e2
    have new : ObjOk X.prog X.w (upd H T (.tup [xs[i], ys[i]])) h' T (.tup [xs[i], ys[i]]) :=
      ⟨by show 2 ≤ sizeLine; decide, [x, y], .cons rw1 (.cons rw2 .nil), hIs⟩
    have I1 : Inv X pins σ (upd H T (.tup [xs[i], ys[i]])) { s with heap := h', toks := tk } :=
      I.turnedNew (t' := tk) (ch := [z, TI, TO, i1, i2]) (fun e o hb q => hk e o (fun q' => hb (by simp at q' ⊢; rcases q' with q' | q' | q' | q' <;> simp [q'])) q) hf hT new
    refine ⟨.ref T, _, I1, rfl, ⟨_, _, _, rfl, I.hok.fresh hT, rfl, fun l hl => by rw [I.list_inj hl hqx]; exact kx, fun l hl => by rw [I.tuple_inj hl hqy]; exact ky⟩, ⟨hz', hTI', ⟨_, _, hTO'⟩, h1', h2'⟩, fun e he => ?_⟩
    obtain ⟨o, ho, _⟩ := zslt_mem st0 e he
    rw [upd_ne (Nat.ne_of_lt (Nat.lt_of_lt_of_le (Heap.lt_size ho) hT))]
    exact (hf e he).1
  done := by
    intro X hP hw hK hcalm i pins s σ H E I hf st hg
    subst hP hw hK
    obtain ⟨xs, ys, hqx, hqy, hi⟩ := hg
    obtain ⟨its, rv, p, _⟩ := I.list hqx
    obtain ⟨its2, rv2, p2, _⟩ := I.tuple hqy
    obtain ⟨hz, hTI, ⟨x0, y0, hTO⟩, h1, h2⟩ := st
    have hh := (I.ok.hd hcalm)
    have W := GoesN.zip2 (elts := elts) (x1 := kk) (pos := tpos) S (Draws.list (prog := X.prog) (w := X.w) (A := X.A.in1) hh i1 a ha its.toArray) (Draws.tuple (prog := X.prog) (w := X.w) (A := X.A.in1) hh i2 b hb its2.toArray)
    have e : i = min its.toArray.size its2.toArray.size := by
      have l1 := rv.length
      have l2 := rv2.length
      simp
      omega
    rw [e] at h1 h2
    exact W.stops s _ _ ⟨hz, hTI, ⟨_, _, hTO⟩, ⟨h1, p.isList⟩, h2, p2⟩ fun h' tk hk htk => I.turnedL (t' := tk) (ch := [z, TI, TO, i1, i2]) (fun e o hb q => hk e o (fun q' => hb (by simp at q' ⊢; rcases q' with q' | q' | q' | q' <;> simp [q'])) q) hf
  self := fun A i s Q E st h => wpAny_pyIter_zip st.1 h
theorem walk_zlt {K : PySem.W.Frag} {a b : Addr} {xs ys : List V} : Walk (Zilt K a b) (min xs.length ys.length) (fun H => SqL K H a xs ∧ SqT K H b ys) (YPair (fun i => xs[i]?) (fun i => ys[i]?)) :=
  ⟨fun i H hi q => ⟨_, _, q.1, q.2, by omega, by omega⟩, fun H q => ⟨_, _, q.1, q.2, rfl⟩, fun i H x H' hi q ⟨T, u, v, h1, h2, h3, h4, h5⟩ => ⟨T, u, v, h1, h2, h3, h4 _ q.1, h5 _ q.2⟩⟩
def Zitl (K : PySem.W.Frag) (a b : Addr) : It :=
  ⟨fun i H => ∃ xs ys : List V, SqT K H a xs ∧ SqL K H b ys ∧ i < xs.length ∧ i < ys.length,
    fun i H v H' => ∃ T x y, v = .ref T ∧ H T = none ∧ H' = upd H T (.tup [x, y]) ∧ (∀ xs, SqT K H a xs → xs[i]? = some x) ∧ ∀ ys, SqL K H b ys → ys[i]? = some y,
    fun i H => ∃ xs ys : List V, SqT K H a xs ∧ SqL K H b ys ∧ i = min xs.length ys.length⟩
def zstl (z TI TO i1 i2 a b : Addr) (i : Nat) (h : Heap) : Prop :=
  IsZip h z TI TO .none ∧ IsTupOf2 h TI (.ref i1) (.ref i2) ∧ (∃ a1 a2, IsTupOf2 h TO a1 a2) ∧ h.IsTupleIter i1 a i ∧ h.IsListIter i2 b i
theorem zstl_mem {z TI TO i1 i2 a b : Addr} {i : Nat} {h : Heap} (st : zstl z TI TO i1 i2 a b i h) : ∀ e ∈ [z, TI, TO, i1, i2], ∃ o, h.get? e = some o ∧ ∀ v, o.data ≠ .cell v := fun e he => by
  obtain ⟨hz, hTI, ⟨x, y, hTO⟩, ⟨o1, e1, _, d1⟩, ⟨o2, e2, _, d2⟩⟩ := st
  have e' : e = z ∨ e = TI ∨ e = TO ∨ e = i1 ∨ e = i2 := by simpa using he
  rcases e' with q | q | q | q | q
  · rw [q]; exact ⟨_, hz, fun v q => nomatch q⟩
  · rw [q]; exact ⟨_, hTI, fun v q => nomatch q⟩
  · rw [q]; exact ⟨_, hTO, fun v q => nomatch q⟩
  · rw [q]; exact ⟨o1, e1, fun v q => by rw [d1] at q; cases q⟩
  · rw [q]; exact ⟨o2, e2, fun v q => by rw [d2] at q; cases q⟩
theorem turn_ztl {P : Program} {w : World} {K : PySem.W.Frag} {elts : List Expr} {kk : Nat} {tpos : Pos} {a b z TI TO i1 i2 : Addr} (S : ZipSep2 z TI TO i1 i2 [i1, a] [i2, b]) (ha : a ≠ i1) (hb : b ≠ i2) :
    Turn P w K (.Tuple elts kk tpos) (Zitl K a b) [z, TI, TO, i1, i2] z (zstl z TI TO i1 i2 a b) where
  mem := by simp
  obj := fun i h st e he => zstl_mem st e he
  keep := fun i h h' st k => by
    obtain ⟨hz, hTI, ⟨x, y, hTO⟩, h1, h2⟩ := st
    exact ⟨k z (by simp) _ hz, k TI (by simp) _ hTI, ⟨x, y, k TO (by simp) _ hTO⟩, h1.at fun o q => k i1 (by simp) o q, h2.at fun o q => k i2 (by simp) o q⟩
  item := by
    intro X hP hw hK hcalm i pins s σ H E I hf st hg
    subst hP hw hK
    obtain ⟨xs, ys, hqx, hqy, lx, ly⟩ := hg
    obtain ⟨its, rv, p, _⟩ := I.tuple hqx
    obtain ⟨its2, rv2, p2, _⟩ := I.list hqy
    have st0 := st
    obtain ⟨hz, hTI, ⟨x0, y0, hTO⟩, h1, h2⟩ := st
    have hh := (I.ok.hd hcalm)
    have W := GoesN.zip2 (elts := elts) (x1 := kk) (pos := tpos) S (Draws.tuple (prog := X.prog) (w := X.w) (A := X.A.in1) hh i1 a ha its.toArray) (Draws.list (prog := X.prog) (w := X.w) (A := X.A.in1) hh i2 b hb its2.toArray)
    have l1 := rv.length
    have l2 := rv2.length
    refine wpAny_mono (W.goes i s (fun u s2 => ∃ x H', Inv X pins σ H' s2 ∧ RelV x u ∧ (Zitl X.K a b).yld i H x H' ∧ zstl z TI TO i1 i2 a b (i + 1) s2.heap ∧ ∀ e ∈ [z, TI, TO, i1, i2], H' e = none) _ (by simp; omega) ⟨hz, hTI, ⟨_, _, hTO⟩, ⟨h1, p⟩, h2, p2.isList⟩ fun v h' tk hY st' hk htk => ?_) (fun r s1 q => q) fun _ _ e => e
    obtain ⟨T, x, y, rfl, hT, px, py, hIs⟩ := hY
    obtain ⟨hz', hTI', ⟨x1, y1, hTO'⟩, ⟨h1', _⟩, h2', _⟩ := st'
    have kx : xs[i]? = some xs[i] := List.getElem?_eq_getElem lx
    have ky : ys[i]? = some ys[i] := List.getElem?_eq_getElem ly
    obtain ⟨w1, hw1, rw1⟩ := rv.get kx
    obtain ⟨w2, hw2, rw2⟩ := rv2.get ky
    have e1 : x = w1 := by simp [hw1] at px; exact px.symm
    have e2 : y = w2 := by simp [hw2] at py; exact py.symm
    subst e1 e2
    have new : ObjOk X.prog X.w (upd H T (.tup [xs[i], ys[i]])) h' T (.tup [xs[i], ys[i]]) :=
      ⟨by show 2 ≤ sizeLine; decide, [x, y], .cons rw1 (.cons rw2 .nil), hIs⟩
    have I1 : Inv X pins σ (upd H T (.tup [xs[i], ys[i]])) { s with heap := h', toks := tk } :=
      I.turnedNew (t' := tk) (ch := [z, TI, TO, i1, i2]) (fun e o hb q => hk e o (fun q' => hb (by simp at q' ⊢; rcases q' with q' | q' | q' | q' <;> simp [q'])) q) hf hT new
    refine ⟨.ref T, _, I1, rfl, ⟨_, _, _, rfl, I.hok.fresh hT, rfl, fun l hl => by rw [I.tuple_inj hl hqx]; exact kx, fun l hl => by rw [I.list_inj hl hqy]; exact ky⟩, ⟨hz', hTI', ⟨_, _, hTO'⟩, h1', h2'⟩, fun e he => ?_⟩
    obtain ⟨o, ho, _⟩ := zstl_mem st0 e he
    rw [upd_ne (Nat.ne_of_lt (Nat.lt_of_lt_of_le (Heap.lt_size ho) hT))]
    exact (hf e he).1
  done := by
    intro X hP hw hK hcalm i pins s σ H E I hf st hg
    subst hP hw hK
    obtain ⟨xs, ys, hqx, hqy, hi⟩ := hg
    obtain ⟨its, rv, p, _⟩ := I.tuple hqx
    obtain ⟨its2, rv2, p2, _⟩ := I.list hqy
    obtain ⟨hz, hTI, ⟨x0, y0, hTO⟩, h1, h2⟩ := st
    have hh := (I.ok.hd hcalm)
    have W := GoesN.zip2 (elts := elts) (x1 := kk) (pos := tpos) S (Draws.tuple (prog := X.prog) (w := X.w) (A := X.A.in1) hh i1 a ha its.toArray) (Draws.list (prog := X.prog) (w := X.w) (A := X.A.in1) hh i2 b hb its2.toArray)
    have e : i = min its.toArray.size its2.toArray.size := by
      have l1 := rv.length
      have l2 := rv2.length
      simp
      omega
    rw [e] at h1 h2
    exact W.stops s _ _ ⟨hz, hTI, ⟨_, _, hTO⟩, ⟨h1, p⟩, h2, p2.isList⟩ fun h' tk hk htk => I.turnedL (t' := tk) (ch := [z, TI, TO, i1, i2]) (fun e o hb q => hk e o (fun q' => hb (by simp at q' ⊢; rcases q' with q' | q' | q' | q' <;> simp [q'])) q) hf
  self := fun A i s Q E st h => wpAny_pyIter_zip st.1 h
theorem walk_ztl {K : PySem.W.Frag} {a b : Addr} {xs ys : List V} : Walk (Zitl K a b) (min xs.length ys.length) (fun H => SqT K H a xs ∧ SqL K H b ys) (YPair (fun i => xs[i]?) (fun i => ys[i]?)) :=
  ⟨fun i H hi q => ⟨_, _, q.1, q.2, by omega, by omega⟩, fun H q => ⟨_, _, q.1, q.2, rfl⟩, fun i H x H' hi q ⟨T, u, v, h1, h2, h3, h4, h5⟩ => ⟨T, u, v, h1, h2, h3, h4 _ q.1, h5 _ q.2⟩⟩
def Zitt (K : PySem.W.Frag) (a b : Addr) : It :=
  ⟨fun i H => ∃ xs ys : List V, SqT K H a xs ∧ SqT K H b ys ∧ i < xs.length ∧ i < ys.length,
    fun i H v H' => ∃ T x y, v = .ref T ∧ H T = none ∧ H' = upd H T (.tup [x, y]) ∧ (∀ xs, SqT K H a xs → xs[i]? = some x) ∧ ∀ ys, SqT K H b ys → ys[i]? = some y,
    fun i H => ∃ xs ys : List V, SqT K H a xs ∧ SqT K H b ys ∧ i = min xs.length ys.length⟩
def zstt (z TI TO i1 i2 a b : Addr) (i : Nat) (h : Heap) : Prop :=
  IsZip h z TI TO .none ∧ IsTupOf2 h TI (.ref i1) (.ref i2) ∧ (∃ a1 a2, IsTupOf2 h TO a1 a2) ∧ h.IsTupleIter i1 a i ∧ h.IsTupleIter i2 b i
theorem zstt_mem {z TI TO i1 i2 a b : Addr} {i : Nat} {h : Heap} (st : zstt z TI TO i1 i2 a b i h) : ∀ e ∈ [z, TI, TO, i1, i2], ∃ o, h.get? e = some o ∧ ∀ v, o.data ≠ .cell v := fun e he => by
  obtain ⟨hz, hTI, ⟨x, y, hTO⟩, ⟨o1, e1, _, d1⟩, ⟨o2, e2, _, d2⟩⟩ := st
  have e' : e = z ∨ e = TI ∨ e = TO ∨ e = i1 ∨ e = i2 := by simpa using he
  rcases e' with q | q | q | q | q
  · rw [q]; exact ⟨_, hz, fun v q => nomatch q⟩
  · rw [q]; exact ⟨_, hTI, fun v q => nomatch q⟩
  · rw [q]; exact ⟨_, hTO, fun v q => nomatch q⟩
  · rw [q]; exact ⟨o1, e1, fun v q => by rw [d1] at q; cases q⟩
  · rw [q]; exact ⟨o2, e2, fun v q => by rw [d2] at q; cases q⟩
theorem turn_ztt {P : Program} {w : World} {K : PySem.W.Frag} {elts : List Expr} {kk : Nat} {tpos : Pos} {a b z TI TO i1 i2 : Addr} (S : ZipSep2 z TI TO i1 i2 [i1, a] [i2, b]) (ha : a ≠ i1) (hb : b ≠ i2) :
    Turn P w K (.Tuple elts kk tpos) (Zitt K a b) [z, TI, TO, i1, i2] z (zstt z TI TO i1 i2 a b) where
  mem := by simp
  obj := fun i h st e he => zstt_mem st e he
  keep := fun i h h' st k => by
    obtain ⟨hz, hTI, ⟨x, y, hTO⟩, h1, h2⟩ := st
    exact ⟨k z (by simp) _ hz, k TI (by simp) _ hTI, ⟨x, y, k TO (by simp) _ hTO⟩, h1.at fun o q => k i1 (by simp) o q, h2.at fun o q => k i2 (by simp) o q⟩
  item := by
    intro X hP hw hK hcalm i pins s σ H E I hf st hg
    subst hP hw hK
    obtain ⟨xs, ys, hqx, hqy, lx, ly⟩ := hg
    obtain ⟨its, rv, p, _⟩ := I.tuple hqx
    obtain ⟨its2, rv2, p2, _⟩ := I.tuple hqy
    have st0 := st
    obtain ⟨hz, hTI, ⟨x0, y0, hTO⟩, h1, h2⟩ := st
    have hh := (I.ok.hd hcalm)
    have W := GoesN.zip2 (elts := elts) (x1 := kk) (pos := tpos) S (Draws.tuple (prog := X.prog) (w := X.w) (A := X.A.in1) hh i1 a ha its.toArray) (Draws.tuple (prog := X.prog) (w := X.w) (A := X.A.in1) hh i2 b hb its2.toArray)
    have l1 := rv.length
    have l2 := rv2.length
    refine wpAny_mono (W.goes i s (fun u s2 => ∃ x H', Inv X pins σ H' s2 ∧ RelV x u ∧ (Zitt X.K a b).yld i H x H' ∧ zstt z TI TO i1 i2 a b (i + 1) s2.heap ∧ ∀ e ∈ [z, TI, TO, i1, i2], H' e = none) _ (by simp; omega) ⟨hz, hTI, ⟨_, _, hTO⟩, ⟨h1, p⟩, h2, p2⟩ fun v h' tk hY st' hk htk => ?_) (fun r s1 q => q) fun _ _ e => e
    obtain ⟨T, x, y, rfl, hT, px, py, hIs⟩ := hY
    obtain ⟨hz', hTI', ⟨x1, y1, hTO'⟩, ⟨h1', _⟩, h2', _⟩ := st'
    have kx : xs[i]? = some xs[i] := List.getElem?_eq_getElem lx
    have ky : ys[i]? = some ys[i] := List.getElem?_eq_getElem ly
    obtain ⟨w1, hw1, rw1⟩ := rv.get kx
    obtain ⟨w2, hw2, rw2⟩ := rv2.get ky
    have e1 : x = w1 := by simp [hw1] at px; exact px.symm
    have e2 : y = w2 := by simp [hw2] at py; exact py.symm
    subst e1 e2
    have new : ObjOk X.prog X.w (upd H T (.tup [xs[i], ys[i]])) h' T (.tup [xs[i], ys[i]]) :=
      ⟨by show 2 ≤ sizeLine; decide, [x, y], .cons rw1 (.cons rw2 .nil), hIs⟩
    have I1 : Inv X pins σ (upd H T (.tup [xs[i], ys[i]])) { s with heap := h', toks := tk } :=
      I.turnedNew (t' := tk) (ch := [z, TI, TO, i1, i2]) (fun e o hb q => hk e o (fun q' => hb (by simp at q' ⊢; rcases q' with q' | q' | q' | q' <;> simp [q'])) q) hf hT new
    refine ⟨.ref T, _, I1, rfl, ⟨_, _, _, rfl, I.hok.fresh hT, rfl, fun l hl => by rw [I.tuple_inj hl hqx]; exact kx, fun l hl => by rw [I.tuple_inj hl hqy]; exact ky⟩, ⟨hz', hTI', ⟨_, _, hTO'⟩, h1', h2'⟩, fun e he => ?_⟩
    obtain ⟨o, ho, _⟩ := zstt_mem st0 e he
    rw [upd_ne (Nat.ne_of_lt (Nat.lt_of_lt_of_le (Heap.lt_size ho) hT))]
    exact (hf e he).1
  done := by
    intro X hP hw hK hcalm i pins s σ H E I hf st hg
    subst hP hw hK
    obtain ⟨xs, ys, hqx, hqy, hi⟩ := hg
    obtain ⟨its, rv, p, _⟩ := I.tuple hqx
    obtain ⟨its2, rv2, p2, _⟩ := I.tuple hqy
    obtain ⟨hz, hTI, ⟨x0, y0, hTO⟩, h1, h2⟩ := st
    have hh := (I.ok.hd hcalm)
    have W := GoesN.zip2 (elts := elts) (x1 := kk) (pos := tpos) S (Draws.tuple (prog := X.prog) (w := X.w) (A := X.A.in1) hh i1 a ha its.toArray) (Draws.tuple (prog := X.prog) (w := X.w) (A := X.A.in1) hh i2 b hb its2.toArray)
    have e : i = min its.toArray.size its2.toArray.size := by
      have l1 := rv.length
      have l2 := rv2.length
      simp
      omega
    rw [e] at h1 h2
    exact W.stops s _ _ ⟨hz, hTI, ⟨_, _, hTO⟩, ⟨h1, p⟩, h2, p2⟩ fun h' tk hk htk => I.turnedL (t' := tk) (ch := [z, TI, TO, i1, i2]) (fun e o hb q => hk e o (fun q' => hb (by simp at q' ⊢; rcases q' with q' | q' | q' | q' <;> simp [q'])) q) hf
  self := fun A i s Q E st h => wpAny_pyIter_zip st.1 h
theorem walk_ztt {K : PySem.W.Frag} {a b : Addr} {xs ys : List V} : Walk (Zitt K a b) (min xs.length ys.length) (fun H => SqT K H a xs ∧ SqT K H b ys) (YPair (fun i => xs[i]?) (fun i => ys[i]?)) :=
  ⟨fun i H hi q => ⟨_, _, q.1, q.2, by omega, by omega⟩, fun H q => ⟨_, _, q.1, q.2, rfl⟩, fun i H x H' hi q ⟨T, u, v, h1, h2, h3, h4, h5⟩ => ⟨T, u, v, h1, h2, h3, h4 _ q.1, h5 _ q.2⟩⟩
def iZipM (K : PySem.W.Frag) (ta : TA) : TI := fun σ H R => ta σ H fun vs H1 => ∃ a b xs ys, vs = [.ref a, .ref b] ∧ ((SqL K H1 a xs ∧ SqL K H1 b ys ∧ R (Zill K a b) H1) ∨ (SqL K H1 a xs ∧ SqT K H1 b ys ∧ R (Zilt K a b) H1) ∨ (SqT K H1 a xs ∧ SqL K H1 b ys ∧ R (Zitl K a b) H1) ∨ (SqT K H1 a xs ∧ SqT K H1 b ys ∧ R (Zitt K a b) H1))
theorem pi_zipM {X : Cx} {e e2 : Expr} {ta : TA} {p pos tpos : Pos} {elts : List Expr} {kk : Nat} (hg : Gl X "zip") (hm : X.mg "zip" = none) (ha : PA X [e, e2] ta)
    (hs : starEach [e, e2] X.env = (false, eval e X.env) :: starEach [e2] X.env := by rfl) (hpl : (backTo pos (starEach [e2] X.env)).any (·.1) = false := by rfl) :
    PI X (.Tuple elts kk tpos) (.Call (.Name "zip" p) [e, e2] [] pos) (iZipM X.K ta) := by
  refine ⟨fun pins s σ H R I h => ?_⟩
  refine Call_ (ld_blt I hg hm PyProof.Rows.boot_zip (PyProof.Rows.callWith_type1 (thn (ha.run pos pins s σ H _ I h) fun us s1 ⟨vs, H1, I1, r1, q1⟩ => ?_) hs hpl))
  obtain ⟨a, b, xs, ys, ex, q1⟩ := q1
  subst ex
  cases r1 with
  | cons r rr =>
    cases rr with
    | cons r' rr =>
      cases rr
      cases r
      cases r'
      have fresh : ∀ e, e ∈ [s1.heap.objs.size + 4, s1.heap.objs.size + 2, s1.heap.objs.size + 3, s1.heap.objs.size, s1.heap.objs.size + 1] → FpOk X pins H1 e := fun e he => by
        have hle : s1.heap.objs.size ≤ e := by
          simp at he
          rcases he with z | z | z | z | z <;> rw [z] <;> first | exact Nat.le_refl _ | exact Nat.le_add_right _ _
        exact I1.fpOk hle (I1.hok.fresh hle)
      rcases q1 with ⟨hqx, hqy, q⟩ | ⟨hqx, hqy, q⟩ | ⟨hqx, hqy, q⟩ | ⟨hqx, hqy, q⟩
      · obtain ⟨its, rv, p1, _⟩ := I1.list hqx
        obtain ⟨its2, rv2, p2, _⟩ := I1.list hqy
        have g1 : a < s1.heap.objs.size := p1.lt
        have g2 : b < s1.heap.objs.size := p2.lt
        refine zip_begins2 (begins_list a its.toArray) (begins_list b its2.toArray) (p1.isList) (p2.isList) fun h' hz hTI hTO o1 o2 hsz hk => wpAny_pyIter_zip hz ?_
        have I2 : Inv X pins σ H1 { s1 with heap := h' } := I1.kept (t' := s1.toks) hk
        exact ⟨s1.heap.objs.size + 4, [s1.heap.objs.size + 4, s1.heap.objs.size + 2, s1.heap.objs.size + 3, s1.heap.objs.size, s1.heap.objs.size + 1], _, _, H1, rfl, I2,
          turn_zll (zip_sep2 (N := s1.heap.objs.size) (fp1 := [a]) (fp2 := [b]) (by simpa using g1) (by simpa using g2)) (Nat.ne_of_lt g1) (Nat.ne_of_lt (Nat.lt_of_lt_of_le g2 (Nat.le_add_right _ _))),
          ⟨hz, hTI, ⟨_, _, hTO⟩, ⟨_, o1, rfl, rfl⟩, ⟨_, o2, rfl, rfl⟩⟩, fresh, q⟩
      · obtain ⟨its, rv, p1, _⟩ := I1.list hqx
        obtain ⟨its2, rv2, p2, _⟩ := I1.tuple hqy
        have g1 : a < s1.heap.objs.size := p1.lt
        have g2 : b < s1.heap.objs.size := (by obtain ⟨o, ho, _⟩ := id p2; exact Heap.lt_size ho)
        refine zip_begins2 (begins_list a its.toArray) (begins_tuple b its2.toArray) (p1.isList) (p2) fun h' hz hTI hTO o1 o2 hsz hk => wpAny_pyIter_zip hz ?_
        have I2 : Inv X pins σ H1 { s1 with heap := h' } := I1.kept (t' := s1.toks) hk
        exact ⟨s1.heap.objs.size + 4, [s1.heap.objs.size + 4, s1.heap.objs.size + 2, s1.heap.objs.size + 3, s1.heap.objs.size, s1.heap.objs.size + 1], _, _, H1, rfl, I2,
          turn_zlt (zip_sep2 (N := s1.heap.objs.size) (fp1 := [a]) (fp2 := [b]) (by simpa using g1) (by simpa using g2)) (Nat.ne_of_lt g1) (Nat.ne_of_lt (Nat.lt_of_lt_of_le g2 (Nat.le_add_right _ _))),
          ⟨hz, hTI, ⟨_, _, hTO⟩, ⟨_, o1, rfl, rfl⟩, ⟨_, o2, rfl, rfl⟩⟩, fresh, q⟩
      · obtain ⟨its, rv, p1, _⟩ := I1.tuple hqx
        obtain ⟨its2, rv2, p2, _⟩ := I1.list hqy
        have g1 : a < s1.heap.objs.size := (by obtain ⟨o, ho, _⟩ := id p1; exact Heap.lt_size ho)
        have g2 : b < s1.heap.objs.size := p2.lt
        refine zip_begins2 (begins_tuple a its.toArray) (begins_list b its2.toArray) (p1) (p2.isList) fun h' hz hTI hTO o1 o2 hsz hk => wpAny_pyIter_zip hz ?_
        have I2 : Inv X pins σ H1 { s1 with heap := h' } := I1.kept (t' := s1.toks) hk
        exact ⟨s1.heap.objs.size + 4, [s1.heap.objs.size + 4, s1.heap.objs.size + 2, s1.heap.objs.size + 3, s1.heap.objs.size, s1.heap.objs.size + 1], _, _, H1, rfl, I2,
          turn_ztl (zip_sep2 (N := s1.heap.objs.size) (fp1 := [a]) (fp2 := [b]) (by simpa using g1) (by simpa using g2)) (Nat.ne_of_lt g1) (Nat.ne_of_lt (Nat.lt_of_lt_of_le g2 (Nat.le_add_right _ _))),
          ⟨hz, hTI, ⟨_, _, hTO⟩, ⟨_, o1, rfl, rfl⟩, ⟨_, o2, rfl, rfl⟩⟩, fresh, q⟩
      · obtain ⟨its, rv, p1, _⟩ := I1.tuple hqx
        obtain ⟨its2, rv2, p2, _⟩ := I1.tuple hqy
        have g1 : a < s1.heap.objs.size := (by obtain ⟨o, ho, _⟩ := id p1; exact Heap.lt_size ho)
        have g2 : b < s1.heap.objs.size := (by obtain ⟨o, ho, _⟩ := id p2; exact Heap.lt_size ho)
        refine zip_begins2 (begins_tuple a its.toArray) (begins_tuple b its2.toArray) (p1) (p2) fun h' hz hTI hTO o1 o2 hsz hk => wpAny_pyIter_zip hz ?_
        have I2 : Inv X pins σ H1 { s1 with heap := h' } := I1.kept (t' := s1.toks) hk
        exact ⟨s1.heap.objs.size + 4, [s1.heap.objs.size + 4, s1.heap.objs.size + 2, s1.heap.objs.size + 3, s1.heap.objs.size, s1.heap.objs.size + 1], _, _, H1, rfl, I2,
          turn_ztt (zip_sep2 (N := s1.heap.objs.size) (fp1 := [a]) (fp2 := [b]) (by simpa using g1) (by simpa using g2)) (Nat.ne_of_lt g1) (Nat.ne_of_lt (Nat.lt_of_lt_of_le g2 (Nat.le_add_right _ _))),
          ⟨hz, hTI, ⟨_, _, hTO⟩, ⟨_, o1, rfl, rfl⟩, ⟨_, o2, rfl, rfl⟩⟩, fresh, q⟩
end Pv
namespace Pv
open PySem PySem.Spec PyProof.Rows L2
section
variable {G : Glo} {lb : Bool} {n : Nat}
/-! ### methods of lists -/
theorem few1 {e : Expr} {env : PySem.Env} {pos : Pos} (h : plain e = true) : ((backTo pos (starEach [e] env)).all (fun x => !x.1) && (backToKw pos (keywordEach [] env)).all (fun x => x.1.isSome)
      && decide (([e] : List Expr).length + ([] : List Keyword).length + (if ([] : List Keyword).isEmpty then 0 else 1) < 30)) = true := by
  rw [starEach_plain h]; rfl
theorem cell_at {H : Hp} {α : Al} {m : Mem} (me : MemR G H α m) {k : Nat} {a : Addr} {l : List PV} (h : α[k]? = some a) (e : m[k]? = some l) : ∃ xs, H a = some (.lst xs) ∧ RpAll G H α xs l ∧ xs.length ≤ sizeLine := me.at_ k a l h e
theorem cell_ty {H : Hp} {α : Al} {m : Mem} (K : PySem.W.Frag) (me : MemR G H α m) {k : Nat} {a : Addr} (h : α[k]? = some a) : tyV K "list" (.ref a) H := by
  obtain ⟨xs, e⟩ := me.mem (List.mem_of_getElem? h)
  exact .inl ⟨rfl, xs, .inl (.inl e)⟩
theorem Paired.eraseIdx' {α β : Type} {F : α → β → Prop} : ∀ {a : List α} {c : List β} (i : Nat), Paired F a c → Paired F (a.eraseIdx i) (c.eraseIdx i)
  | _, _, _, .nil => .nil
  | _, _, 0, .cons _ t => t
  | _, _, i + 1, .cons q t => .cons q (Paired.eraseIdx' i t)
theorem ok_app {o e : E} (ho : OkE G lb n o) (he : OkE G lb n e) : OkE G lb n (.app o e) := by
  intro N sc ex X W C h
  cases ex with
  | Call fe es kw pos =>
    cases fe with
    | Attribute x y apos =>
      cases kw with
      | cons _ _ => simp only [chkE, Bool.false_eq_true] at h
      | nil =>
        rcases es with _ | ⟨z, _ | ⟨f, es⟩⟩ <;> simp only [chkE, Bool.false_eq_true, Bool.and_eq_true, decide_eq_true_eq] at h
        obtain ⟨⟨⟨⟨h1, h2⟩, h3⟩, h4⟩, h5⟩ := h
        subst h1
        refine PE.weak (pe_bm F.plainAttrs_list F.slot_list_append F.type_list_append mt_append (ho N sc _ X W C h3) (pa_cons (he N sc _ X W C h4) pa_nil (starEach_plain (chk_plain h4))) (attr_plain h5) (few1 (chk_plain h4)) (by rw [h2]; exact beq_self_eq_true _) (starEach_plain (chk_plain h4)) rfl) fun σ H Q ⟨α, ρ, m, re, me, q⟩ => ⟨α, ρ, m, re, me, ?_⟩
        simp only [evE] at q
        generalize evE G.pr.con (run G.pr n) o ρ m = r at q ⊢
        cases r with
        | no => exact q
        | exc x m1 => exact q
        | ok v m1 =>
          simp only [bnd_ok] at q
          intro x H1 α1 st rv me1
          have q := Post.base q st
          cases v with
          | cell k =>
            cases rv with
            | d f => cases f
            | cell hk =>
              refine ⟨cell_ty _ me1 hk, α1, ρ, m1, re.ext st.ext st.le, me1, Post.bnd q fun w m2 y H2 α2 st2 rw' me2 q2 => ?_⟩
              cases e2 : m2[k]? with
              | none => simp only [e2] at q2; exact q2.elim
              | some l =>
                simp only [e2] at q2
                obtain ⟨xs, hx, rx, hz⟩ := me2.at_ k _ l (st2.le _ _ hk) e2
                by_cases hlt : l.length < big
                · simp only [if_pos hlt] at q2
                  have hl : xs.length < sizeLine := by rw [Paired.length rx]; exact Nat.lt_of_lt_of_le hlt big_size
                  have hex : Ext H2 (L2.upd H2 _ (.lst (xs ++ [y]))) := Ext.set hx
                  refine ⟨_, xs, y, rfl, rfl, hx, hl, q2 .non _ α2 (Stp.set hx (List.mem_of_getElem? (st2.le _ _ hk))) (.d .non) (me2.set (st2.le _ _ hk) hx (Paired.append' rx (.cons rw' .nil)) (by simp; omega))⟩
                · simp only [if_neg hlt] at q2
                  exact q2.elim
          | _ => exact q.elim
    | _ => simp only [chkE, Bool.false_eq_true] at h
  | _ => simp only [chkE, Bool.false_eq_true] at h
theorem ok_popl {o : E} (ho : OkE G lb n o) : OkE G lb n (.popl o) := by
  intro N sc ex X W C h
  cases ex with
  | Call fe es kw pos =>
    cases fe with
    | Attribute x y apos =>
      cases kw with
      | cons _ _ => cases es <;> simp only [chkE, Bool.false_eq_true] at h
      | nil =>
        rcases es with _ | ⟨z, es⟩ <;> simp only [chkE, Bool.false_eq_true, Bool.and_eq_true, decide_eq_true_eq] at h
        obtain ⟨⟨⟨h1, h2⟩, h3⟩, h5⟩ := h
        subst h1
        refine PE.weak (pe_bm0 F.plainAttrs_list F.slot_list_pop F.type_list_pop mt_pop (ho N sc _ X W C h3) (attr_plain h5) (by rw [h2]; exact beq_self_eq_true _)) fun σ H Q ⟨α, ρ, m, re, me, q⟩ => ⟨α, ρ, m, re, me, ?_⟩
        simp only [evE] at q
        refine Post.bnd q fun v m1 x H1 α1 st rv me1 q1 => ?_
        cases v with
        | cell k =>
          cases rv with
          | d f => cases f
          | cell hk =>
            refine ⟨cell_ty _ me1 hk, ?_⟩
            cases e2 : m1[k]? with
            | none => simp only [e2] at q1; exact q1.elim
            | some l =>
              simp only [e2] at q1
              obtain ⟨xs, hx, rx, hz⟩ := me1.at_ k _ l hk e2
              cases e3 : l[l.length - 1]? with
              | none => simp only [e3] at q1; exact q1.elim
              | some w =>
                simp only [e3] at q1
                obtain ⟨y, ey, ry⟩ := Paired.get' rx e3
                have hex : Ext H1 (L2.upd H1 _ (.lst xs.dropLast)) := Ext.set hx
                have hd : RpAll G H1 α1 xs.dropLast l.dropLast := by
                  rw [List.dropLast_eq_take, List.dropLast_eq_take, Paired.length rx]
                  exact Paired.take' _ rx
                exact ⟨_, xs, y, rfl, rfl, hx, by rw [Paired.length rx]; exact ey, q1 y _ α1 (Stp.set hx (List.mem_of_getElem? hk)) (ry.ext hex Le.refl) (me1.set hk hx hd (by rw [List.length_dropLast]; omega))⟩
        | _ => exact q1.elim
    | _ => cases es <;> cases kw <;> simp only [chkE, Bool.false_eq_true] at h
  | _ => simp only [chkE, Bool.false_eq_true] at h
theorem ok_popi {o i : E} (ho : OkE G lb n o) (hi : OkE G lb n i) : OkE G lb n (.popi o i) := by
  intro N sc ex X W C h
  cases ex with
  | Call fe es kw pos =>
    cases fe with
    | Attribute x y apos =>
      cases kw with
      | cons _ _ => simp only [chkE, Bool.false_eq_true] at h
      | nil =>
        rcases es with _ | ⟨z, _ | ⟨f, es⟩⟩ <;> simp only [chkE, Bool.false_eq_true, Bool.and_eq_true, decide_eq_true_eq] at h
        obtain ⟨⟨⟨⟨h1, h2⟩, h3⟩, h4⟩, h5⟩ := h
        subst h1
        refine PE.weak (pe_bm F.plainAttrs_list F.slot_list_pop F.type_list_pop mt_popAt (ho N sc _ X W C h3) (pa_cons (hi N sc _ X W C h4) pa_nil (starEach_plain (chk_plain h4))) (attr_plain h5) (few1 (chk_plain h4)) (by rw [h2]; exact beq_self_eq_true _) (starEach_plain (chk_plain h4)) rfl) fun σ H Q ⟨α, ρ, m, re, me, q⟩ => ⟨α, ρ, m, re, me, ?_⟩
        simp only [evE] at q
        refine Post.bnd q fun v m1 x H1 α1 st rv me1 q1 => ?_
        cases v with
        | cell k =>
          cases rv with
          | d f => cases f
          | cell hk =>
            refine ⟨cell_ty _ me1 hk, α1, ρ, m1, re.ext st.ext st.le, me1, Post.bnd q1 fun w m2 y H2 α2 st2 rw' me2 q2 => ?_⟩
            cases w with
            | int i =>
              have e1 := fz_int rw'
              subst e1
              cases e2 : m2[k]? with
              | none => simp only [e2] at q2; exact q2.elim
              | some l =>
                simp only [e2] at q2
                have hk2 := st2.le _ _ hk
                obtain ⟨xs, hx, rx, hz⟩ := me2.at_ k _ l hk2 e2
                cases e3 : atI l.length i with
                | none => simp only [e3] at q2; exact q2.elim
                | some j =>
                  simp only [e3] at q2
                  cases e4 : l[j]? with
                  | none => simp only [e4] at q2; exact q2.elim
                  | some u =>
                    simp only [e4] at q2
                    obtain ⟨y, ey, ry⟩ := Paired.get' rx e4
                    have hex : Ext H2 (L2.upd H2 _ (.lst (xs.eraseIdx j))) := Ext.set hx
                    have hlen := Paired.length rx
                    have hix : L2.ixN xs.length i = some j := by rw [hlen]; exact e3
                    obtain ⟨s1, s2, s3, s4⟩ := L2.ixN_seq hix
                    have hb : (xs.length : Int) ≤ 2 ^ 62 := by
                      have := hz
                      rw [sizeLine_eq] at this
                      omega
                    exact ⟨_, xs, i, j, y, rfl, rfl, hx, by omega, by omega, s1, ey, q2 y _ α2 (Stp.set hx (List.mem_of_getElem? hk2)) (ry.ext hex Le.refl) (me2.set hk2 hx (Paired.eraseIdx' j rx) (Nat.le_trans (L2.len_erase xs j) hz))⟩
            | _ => exact q2.elim
        | _ => exact q1.elim
    | _ => simp only [chkE, Bool.false_eq_true] at h
  | _ => simp only [chkE, Bool.false_eq_true] at h
/-! ### zip -/
theorem zipL_length : ∀ (a b : List PV), (zipL a b).length = min a.length b.length
  | [], b => by cases b <;> simp [zipL]
  | x :: a, [] => by simp [zipL]
  | x :: a, y :: b => by simp [zipL, zipL_length a b]
theorem zipL_get : ∀ (a b : List PV) (i : Nat) (x y : PV), a[i]? = some x → b[i]? = some y → (zipL a b)[i]? = some (.tup [x, y])
  | [], _, i, x, y, h, _ => by simp at h
  | _ :: _, [], i, x, y, _, h => by simp at h
  | u :: a, v :: b, 0, x, y, h1, h2 => by simp at h1 h2; simp [zipL, h1, h2]
  | u :: a, v :: b, i + 1, x, y, h1, h2 => by
    show (zipL a b)[i]? = _
    exact zipL_get a b i x y (by simpa using h1) (by simpa using h2)
theorem GoodJ.zip {H : Hp} {α : Al} {J : It} {xs ys : List V} {l r : List PV} {Gd : Hp → Prop} (w : Walk J (min xs.length ys.length) Gd (YPair (fun i => xs[i]?) (fun i => ys[i]?))) (hg : ∀ H', Ext H H' → Gd H') (hx : FzAll G.K H xs l) (hy : FzAll G.K H ys r) (hz : xs.length ≤ sizeLine) : GoodJ G H α J (.lst (zipL l r)) := by
  refine .inl ⟨_, .inr rfl, by rw [zipL_length, ← hx.length]; omega, Gd, _, by rw [zipL_length, ← hx.length, ← hy.length]; exact w, hg, fun i H1 x H2 e hi y => ?_⟩
  obtain ⟨T, u, v, rfl, hT, rfl, h1, h2⟩ := y
  obtain ⟨d1, e1, f1⟩ := hx.get' h1
  obtain ⟨d2, e2, f2⟩ := hy.get' h2
  have hex : Ext H (L2.upd H1 T (.tup [u, v])) := e.trans (Ext.new hT)
  exact ⟨.inr ⟨T, _, hT, rfl⟩, _, zipL_get l r i d1 d2 e1 e2, .tup (SqT.of upd_same) (small_size (by simp)) (.cons (f1.ext hex) (.cons (f2.ext hex) .nil))⟩
theorem ok_zip (hG : GOk G) {a b : E} (ha : OkE G lb n a) (hb : OkE G lb n b) : OkI G lb n (.zip a b) := by
  intro N sc e tg X W C ht h
  cases tg <;> try (cases ht; done)
  cases e with
  | Call fe es kw pos =>
    cases fe with
    | Name x p =>
      cases kw with
      | cons _ _ => simp only [chkE, Bool.false_eq_true] at h
      | nil =>
        rcases es with _ | ⟨e, _ | ⟨f, _ | ⟨g, es⟩⟩⟩ <;> simp only [chkE, Bool.false_eq_true, Bool.and_eq_true, decide_eq_true_eq] at h
        obtain ⟨⟨⟨h1, h2⟩, h3⟩, h4⟩ := h
        subst h1
        obtain ⟨g1, g2, g3, g4⟩ := blt_ok hG C h2
        have e1 := starEach_plain (es := [f]) (env := X.env) (chk_plain h3)
        have e2 := starEach_plain (es := []) (env := X.env) (chk_plain h4)
        refine PI.weak (pi_zipM g1 g2 (pa_cons (ha N sc _ X W C h3) (pa_cons (hb N sc _ X W C h4) pa_nil e2) e1) e1 (by rw [e2]; rfl)) fun σ H R ⟨α, ρ, m, re, me, q⟩ => ⟨α, ρ, m, re, me, ?_⟩
        simp only [evE, bnd_assoc] at q
        refine Post.bnd q fun v m1 x H1 α1 st rv me1 q1 => ⟨α1, ρ, m1, re.ext st.ext st.le, me1, Post.bnd q1 fun w m2 y H2 α2 st2 rw' me2 q2 => ?_⟩
        have rv2 := rv.ext st2.ext st2.le
        rw [C.K]
        cases v <;> cases w <;> try (exact q2.elim)
        · cases rv2 with
          | d f1 =>
            cases f1 with
            | tup z1 z2 z3 =>
              cases rw' with
              | d f2 =>
                cases f2 with
                | tup y1 y2 y3 => exact ⟨_, _, _, _, rfl, .inr (.inr (.inr ⟨z1, y1, Post.ok (rel := GoodJ G) q2 (GoodJ.zip walk_ztt (fun H' e => ⟨SqT.ext e z1, SqT.ext e y1⟩) z3 y3 z2) me2⟩))⟩
        · cases rv2 with
          | d f1 =>
            cases f1 with
            | tup z1 z2 z3 =>
              cases rw' with
              | d f2 =>
                cases f2 with
                | lst y1 y2 y3 => exact ⟨_, _, _, _, rfl, .inr (.inr (.inl ⟨z1, y1.sq, Post.ok (rel := GoodJ G) q2 (GoodJ.zip walk_ztl (fun H' e => ⟨SqT.ext e z1, (FL.ext e y1).sq⟩) z3 y3 z2) me2⟩))⟩
        · cases rv2 with
          | d f1 =>
            cases f1 with
            | lst z1 z2 z3 =>
              cases rw' with
              | d f2 =>
                cases f2 with
                | tup y1 y2 y3 => exact ⟨_, _, _, _, rfl, .inr (.inl ⟨z1.sq, y1, Post.ok (rel := GoodJ G) q2 (GoodJ.zip walk_zlt (fun H' e => ⟨(FL.ext e z1).sq, SqT.ext e y1⟩) z3 y3 z2) me2⟩)⟩
        · cases rv2 with
          | d f1 =>
            cases f1 with
            | lst z1 z2 z3 =>
              cases rw' with
              | d f2 =>
                cases f2 with
                | lst y1 y2 y3 => exact ⟨_, _, _, _, rfl, .inl ⟨z1.sq, y1.sq, Post.ok (rel := GoodJ G) q2 (GoodJ.zip walk_zll (fun H' e => ⟨(FL.ext e z1).sq, (FL.ext e y1).sq⟩) z3 y3 z2) me2⟩⟩
    | _ => simp only [chkE, Bool.false_eq_true] at h
  | _ => simp only [chkE, Bool.false_eq_true] at h
/-! ### zip of three lists -/
theorem zipL3_length : ∀ (a b c : List PV), (zipL3 a b c).length = min (min a.length b.length) c.length
  | [], b, c => by cases b <;> cases c <;> simp [zipL3]
  | x :: a, [], c => by cases c <;> simp [zipL3]
  | x :: a, y :: b, [] => by simp [zipL3]
  | x :: a, y :: b, z :: c => by simp [zipL3, zipL3_length a b c]
theorem zipL3_get : ∀ (a b c : List PV) (i : Nat) (x y z : PV), a[i]? = some x → b[i]? = some y → c[i]? = some z → (zipL3 a b c)[i]? = some (.tup [x, y, z])
  | [], _, _, i, x, y, z, h, _, _ => by simp at h
  | _ :: _, [], _, i, x, y, z, _, h, _ => by simp at h
  | _ :: _, _ :: _, [], i, x, y, z, _, _, h => by simp at h
  | u :: a, v :: b, w :: c, 0, x, y, z, h1, h2, h3 => by simp at h1 h2 h3; simp [zipL3, h1, h2, h3]
  | u :: a, v :: b, w :: c, i + 1, x, y, z, h1, h2, h3 => by
    show (zipL3 a b c)[i]? = _
    exact zipL3_get a b c i x y z (by simpa using h1) (by simpa using h2) (by simpa using h3)
theorem GoodJ.zip3 {H : Hp} {α : Al} {a b c : Addr} {xs ys zs : List V} {l r u : List PV} (za : FL H a xs) (zb : FL H b ys) (zc : FL H c zs) (hx : FzAll G.K H xs l) (hy : FzAll G.K H ys r) (hu : FzAll G.K H zs u) (hz : xs.length ≤ sizeLine) : GoodJ G H α (Itz3 G.K a b c) (.lst (zipL3 l r u)) := by
  have e0 : (zipL3 l r u).length = min (min xs.length ys.length) zs.length := by rw [zipL3_length, ← hx.length, ← hy.length, ← hu.length]
  refine .inl ⟨_, .inr rfl, by rw [e0]; omega, fun H => SqL G.K H a xs ∧ SqL G.K H b ys ∧ SqL G.K H c zs, fun i H v H' => ∃ T x y z, v = .ref T ∧ H T = none ∧ H' = L2.upd H T (.tup [x, y, z]) ∧ xs[i]? = some x ∧ ys[i]? = some y ∧ zs[i]? = some z, ?_, fun H' e => ⟨(FL.ext e za).sq, (FL.ext e zb).sq, (FL.ext e zc).sq⟩, fun i H1 x H2 e hi y => ?_⟩
  · rw [e0]
    exact ⟨fun i H hi q => ⟨_, _, _, q.1, q.2.1, q.2.2, by omega, by omega, by omega⟩, fun H q => ⟨_, _, _, q.1, q.2.1, q.2.2, rfl⟩, fun i H x H' hi q ⟨T, u, v, w, h1, h2, h3, h4, h5, h6⟩ => ⟨T, u, v, w, h1, h2, h3, h4 _ q.1, h5 _ q.2.1, h6 _ q.2.2⟩⟩
  · obtain ⟨T, u1, v1, w1, rfl, hT, rfl, h1, h2, h3⟩ := y
    obtain ⟨d1, e1, f1⟩ := hx.get' h1
    obtain ⟨d2, e2, f2⟩ := hy.get' h2
    obtain ⟨d3, e3, f3⟩ := hu.get' h3
    have hex : Ext H (L2.upd H1 T (.tup [u1, v1, w1])) := e.trans (Ext.new hT)
    exact ⟨.inr ⟨T, _, hT, rfl⟩, _, zipL3_get l r u i d1 d2 d3 e1 e2 e3, .tup (SqT.of upd_same) (small_size (by simp)) (.cons (f1.ext hex) (.cons (f2.ext hex) (.cons (f3.ext hex) .nil)))⟩
theorem ok_zip3 (hG : GOk G) {a b c : E} (ha : OkE G lb n a) (hb : OkE G lb n b) (hc : OkE G lb n c) : OkI G lb n (.zip3 a b c) := by
  intro N sc e tg X W C ht h
  cases tg <;> try (cases ht; done)
  cases e with
  | Call fe es kw pos =>
    cases fe with
    | Name x p =>
      cases kw with
      | cons _ _ => simp only [chkE, Bool.false_eq_true] at h
      | nil =>
        rcases es with _ | ⟨e, _ | ⟨f, _ | ⟨g, _ | ⟨k, es⟩⟩⟩⟩ <;> simp only [chkE, Bool.false_eq_true, Bool.and_eq_true, decide_eq_true_eq] at h
        obtain ⟨⟨⟨⟨h1, h2⟩, h3⟩, h4⟩, h5⟩ := h
        subst h1
        obtain ⟨g1, g2, g3, g4⟩ := blt_ok hG C h2
        have e1 := starEach_plain (es := [f, g]) (env := X.env) (chk_plain h3)
        have e2 := starEach_plain (es := [g]) (env := X.env) (chk_plain h4)
        have e3 := starEach_plain (es := []) (env := X.env) (chk_plain h5)
        refine PI.weak (pi_zip3 g1 g2 (pa_cons (ha N sc _ X W C h3) (pa_cons (hb N sc _ X W C h4) (pa_cons (hc N sc _ X W C h5) pa_nil e3) e2) e1) e1 (by rw [e2, e3]; rfl)) fun σ H R ⟨α, ρ, m, re, me, q⟩ => ⟨α, ρ, m, re, me, ?_⟩
        simp only [evE, bnd_assoc] at q
        refine Post.bnd q fun v m1 x H1 α1 st rv me1 q1 => ⟨α1, ρ, m1, re.ext st.ext st.le, me1, Post.bnd q1 fun w m2 y H2 α2 st2 rw' me2 q2 => ⟨α2, ρ, m2, (re.ext st.ext st.le).ext st2.ext st2.le, me2, Post.bnd q2 fun z m3 y3 H3 α3 st3 rz me3 q3 => ?_⟩⟩
        have rv2 := (rv.ext st2.ext st2.le).ext st3.ext st3.le
        have rw2 := rw'.ext st3.ext st3.le
        rw [C.K]
        cases v <;> cases w <;> cases z <;> try (exact q3.elim)
        cases rv2 with
        | d f1 =>
          cases f1 with
          | lst z1 z2 z3 =>
            cases rw2 with
            | d f2 =>
              cases f2 with
              | lst y1 y2 y3 =>
                cases rz with
                | d f3 =>
                  cases f3 with
                  | lst x1 x2 x3 => exact ⟨_, _, _, _, _, _, rfl, z1.sq, y1.sq, x1.sq, Post.ok (rel := GoodJ G) q3 (GoodJ.zip3 z1 y1 x1 z3 y3 x3 z2) me3⟩
    | _ => simp only [chkE, Bool.false_eq_true] at h
  | _ => simp only [chkE, Bool.false_eq_true] at h
end
end Pv
namespace Pv
open PySem PySem.Spec PyProof.Rows L2
section
variable {G : Glo} {lb : Bool} {n : Nat}
/-! ### a written dict's get -/
def kOf (k : List Nat) : Key := .inr ⟨k.toArray⟩
theorem kOf_inj {a b : List Nat} (h : kOf a = kOf b) : a = b := by
  unfold kOf at h
  have h1 : (⟨a.toArray⟩ : Str) = ⟨b.toArray⟩ := Sum.inr.inj h
  have h2 : a.toArray = b.toArray := by injection h1
  simpa using congrArg Array.toList h2
theorem Ext.dk {H : Hp} {p : Addr} {kvs : List (Key × V)} {o : HO} (h : H p = some (.dK kvs)) : Ext H (L2.upd H p o) :=
  ⟨fun a ys e => by rw [upd_ne (ne_of e h (by intro z; cases z))]; exact e, fun a o' u e => by rw [upd_ne (ne_of e h (by intro z; cases z))]; exact e⟩
def dPairs : List (List Nat) → List V → List (Key × V)
  | k :: ks, x :: xs => (kOf k, x) :: dPairs ks xs
  | _, _ => []
theorem dPairs_keys : ∀ {ks : List (List Nat)} {xs : List V} {q : Key × V}, q ∈ dPairs ks xs → ∃ k ∈ ks, q.1 = kOf k
  | [], _, q, h => by simp [dPairs] at h
  | _ :: _, [], q, h => by simp [dPairs] at h
  | k :: ks, x :: xs, q, h => by
    rcases List.mem_cons.mp h with rfl | h
    · exact ⟨k, by simp, rfl⟩
    · obtain ⟨k', h1, h2⟩ := dPairs_keys h
      exact ⟨k', by simp [h1], h2⟩
theorem merge_new : ∀ (more acc : List (Key × V)), (more.map (·.1)).Nodup → (∀ p ∈ acc, ∀ q ∈ more, p.1 ≠ q.1) → mergeK acc more = acc ++ more
  | [], acc, _, _ => by simp [mergeK]
  | p :: more, acc, hn, hd => by
    rw [List.map_cons, List.nodup_cons] at hn
    show mergeK (putK acc p.1 p.2) more = _
    have e : putK acc p.1 p.2 = acc ++ [p] := by
      unfold putK
      rw [if_neg]
      intro z
      obtain ⟨q, hq, ez⟩ := List.any_eq_true.mp z
      exact hd q hq p (by simp) (by simpa using ez)
    rw [e, merge_new more (acc ++ [p]) hn.2 fun a ha q hq => ?_]
    · simp
    · rcases List.mem_append.mp ha with ha | ha
      · exact hd a ha q (by simp [hq])
      · have : a = p := by simpa using ha
        subst this
        intro z
        exact hn.1 (List.mem_map.mpr ⟨q, hq, z.symm⟩)
theorem dPairs_nodup : ∀ {ks : List (List Nat)} {xs : List V}, ks.Nodup → ((dPairs ks xs).map (·.1)).Nodup
  | [], _, _ => by simp [dPairs]
  | _ :: _, [], _ => by simp [dPairs]
  | k :: ks, x :: xs, h => by
    rw [List.nodup_cons] at h
    show ((kOf k) :: (dPairs ks xs).map (·.1)).Nodup
    rw [List.nodup_cons]
    refine ⟨fun z => ?_, dPairs_nodup h.2⟩
    obtain ⟨q, hq, e⟩ := List.mem_map.mp z
    obtain ⟨k', h1, h2⟩ := dPairs_keys hq
    have := kOf_inj (h2.symm.trans e)
    subst this
    exact h.1 h1
theorem dPairs_get {H : Hp} {α : Al} {s : List Nat} : ∀ {ks : List (List Nat)} {xs : List V} {l : List PV}, RpAll G H α xs l → (∀ x, valV (dPairs ks xs) (kOf s) = some x → ∃ v, lkS ks l s = some v ∧ Rp G H α x v) ∧ (valV (dPairs ks xs) (kOf s) = none → lkS ks l s = none)
  | [], xs, l, _ => ⟨fun x e => by simp [dPairs, valV] at e, fun _ => by cases l <;> rfl⟩
  | k :: ks, _, _, .nil => ⟨fun x e => by simp [dPairs, valV] at e, fun _ => rfl⟩
  | k :: ks, x :: xs, v :: l, .cons r t => by
    by_cases hk : k = s
    · subst hk
      have e1 : valV (dPairs (k :: ks) (x :: xs)) (kOf k) = some x := valV_pos rfl
      rw [e1]
      have e2 : lkS (k :: ks) (v :: l) k = some v := by simp [lkS]
      rw [e2]
      exact ⟨fun y e => by cases e; exact ⟨v, rfl, r⟩, fun e => by cases e⟩
    · have e1 : valV (dPairs (k :: ks) (x :: xs)) (kOf s) = valV (dPairs ks xs) (kOf s) := by
        show (List.find? _ ((kOf k, x) :: dPairs ks xs)).map _ = _
        rw [List.find?_cons]
        have : decide (kOf k = kOf s) = false := decide_eq_false fun z => hk (kOf_inj z)
        simp only [this]
        rfl
      have e2 : lkS (k :: ks) (v :: l) s = lkS ks l s := by simp [lkS, hk]
      rw [e1, e2]
      exact dPairs_get t
def tP (G : Glo) (n : Nat) (W : WX) (ks : List (List Nat)) (c : E) (σ : L2.St) (H : Hp) (Q : List (V × V) → Hp → Prop) : Prop := ∃ α ρ m, EnvR G H α ρ σ ∧ MemR G H α m ∧
  Post G (fun H α (ps : List (V × V)) r => ∃ xs, RpAll G H α xs (unl r) ∧ ks.length = xs.length ∧ ps = (dPairs ks xs).map fun kv => (kV kv.1, kv.2)) (evE G.pr.con (run G.pr n) c ρ m) H α Q (wE W σ)
def OkP (G : Glo) (lb : Bool) (n : Nat) (c : E) : Prop := ∀ (N : List Str) (sc : Scope) (X : Cx) (W : WX) (pos : Pos) (ks : List (List Nat)) (kes : List (Option Expr)) (ves : List Expr), CG G lb n N sc W X → chkL G.nms N c sc ves = true → keysB ks kes = true → ks.length = ves.length →
  ∃ trs, PPs X pos kes ves trs ∧ ∀ σ H Q, tP G n W ks c σ H Q → tPairs trs σ H Q
theorem okP_none {c : E} (h : ∀ (N : List Str) (sc : Scope) (es : List Expr), chkL G.nms N c sc es = true → False) : OkP G lb n c := fun N sc X W pos ks kes ves C hc => (h N sc ves hc).elim
theorem okP_nil : OkP G lb n .nil := by
  intro N sc X W pos ks kes ves C h1 h2 h3
  cases ves with
  | cons _ _ => simp only [chkL, Bool.false_eq_true] at h1
  | nil =>
    cases ks with
    | cons _ _ => cases h3
    | nil =>
      cases kes with
      | cons _ _ => cases h2
      | nil => exact ⟨[], pps_nil, fun σ H Q ⟨α, ρ, m, re, me, q⟩ => q [] H α Stp.refl ⟨[], .nil, rfl, rfl⟩ me⟩
theorem okP_cons {a l : E} (ha : OkE G lb n a) (hl : OkP G lb n l) : OkP G lb n (.cons a l) := by
  intro N sc X W pos ks kes ves C h1 h2 h3
  cases ves with
  | nil => simp only [chkL, Bool.false_eq_true] at h1
  | cons ve ves =>
    simp only [chkL, Bool.and_eq_true] at h1
    cases ks with
    | nil => cases h3
    | cons k ks =>
      cases kes with
      | nil => cases h2
      | cons ke kes =>
        cases ke with
        | none => cases h2
        | some ke =>
          cases ke with
          | Constant cv x1 x2 =>
            cases cv with
            | str x =>
              simp only [keysB, Bool.and_eq_true, decide_eq_true_eq] at h2
              obtain ⟨e1, h2⟩ := h2
              subst e1
              obtain ⟨trs, hp, ht⟩ := hl N sc X W pos ks kes ves C h1.2 h2 (by simpa using h3)
              refine ⟨(_, _) :: trs, pps_cons pe_str (ha N sc ve X W C h1.1) hp, fun σ H Q ⟨α, ρ, m, re, me, q⟩ => ⟨α, ρ, m, re, me, ?_⟩⟩
              simp only [evE] at q
              refine Post.bnd q fun v m1 x H1 α1 st rv me1 q1 => ht _ _ _ ⟨α1, ρ, m1, re.ext st.ext st.le, me1, ?_⟩
              generalize evE G.pr.con (run G.pr n) l ρ m1 = r at q1 ⊢
              cases r with
              | no => exact q1
              | exc x m1 => exact q1
              | ok w m2 =>
                simp only [bnd_ok] at q1
                rintro ps H2 α2 st2 ⟨xs, rx, hl, rfl⟩ me2
                exact q1 _ H2 α2 st2 ⟨x :: xs, .cons (rv.ext st2.ext st2.le) rx, by simp [hl], rfl⟩ me2
            | _ => cases h2
          | _ => cases h2
theorem keysB_len : ∀ {ks : List (List Nat)} {kes : List (Option Expr)}, keysB ks kes = true → kes.length = ks.length ∧ kes.all (·.isSome) = true
  | [], [], _ => ⟨rfl, rfl⟩
  | [], _ :: _, h => by cases h
  | _ :: _, [], h => by cases h
  | k :: ks, none :: _, h => by cases h
  | k :: ks, some e :: kes, h => by
    cases e with
    | Constant cv _ _ =>
      cases cv with
      | str x =>
        simp only [keysB, Bool.and_eq_true] at h
        obtain ⟨h1, h2⟩ := keysB_len h.2
        exact ⟨by simp [h1], by simp [h2]⟩
      | _ => cases h
    | _ => cases h
theorem dPairs_len : ∀ {ks : List (List Nat)} {xs : List V}, ks.length = xs.length → (dPairs ks xs).length = ks.length
  | [], _, _ => rfl
  | _ :: _, [], h => by cases h
  | k :: ks, x :: xs, h => by show (dPairs ks xs).length + 1 = _; rw [dPairs_len (by simpa using h)]; rfl
theorem ok_dget {ks : List (List Nat)} {vs k d : E} (hv : OkP G lb n vs) (hk : OkE G lb n k) (hd : OkE G lb n d) : OkE G lb n (.dget ks vs k d) := by
  intro N sc ex X W C h
  cases ex with
  | Call fe es kw pos =>
    cases fe with
    | Attribute x y apos =>
      cases x with
      | Dict kes ves dpos =>
        cases kw with
        | cons _ _ => rcases es with _ | ⟨e, _ | ⟨f, _ | ⟨g, es⟩⟩⟩ <;> simp only [chkE, Bool.false_eq_true] at h
        | nil =>
          rcases es with _ | ⟨e, _ | ⟨f, _ | ⟨g, es⟩⟩⟩ <;> simp only [chkE, Bool.false_eq_true, Bool.and_eq_true, decide_eq_true_eq] at h
          obtain ⟨⟨⟨⟨⟨⟨⟨⟨⟨h1, h2⟩, h3⟩, h4⟩, h5⟩, h6⟩, h7⟩, h8⟩, h9⟩, h10⟩ := h
          subst h1
          obtain ⟨l1, l2⟩ := keysB_len h3
          obtain ⟨trs, hp, ht⟩ := hv N sc X W dpos ks kes ves C h8 h3 h5
          have s1 := starEach_plain (es := [f]) (env := X.env) (chk_plain h9)
          have s2 := starEach_plain (es := []) (env := X.env) (chk_plain h10)
          refine PE.weak (pe_dget2 (by have := C.room.un; unfold cLine at *; omega) (pe_disp hp l2 (by rw [l1, h5]) (fun z => h6 (by rw [← List.length_eq_zero_iff, ← l1, z]; rfl)) (by rw [l1]; exact h7)) (hk N sc e X W C h9) (hd N sc f X W C h10) ⟨rfl, by rw [s1, s2]; rfl, by rw [h2]; exact beq_self_eq_true _, by rw [s1, s2]; rfl⟩) fun σ H Q ⟨α, ρ, m, re, me, q⟩ => ?_
          intro p hpn
          have st0 : Stp H α (L2.upd H p (.dK [])) α := Stp.laid hpn
          refine ht _ _ _ ⟨α, ρ, m, re.ext st0.ext st0.le, me.upd hpn, ?_⟩
          simp only [evE] at q
          have hpα : p ∉ α := fun z => by obtain ⟨ys, e⟩ := me.mem z; rw [hpn] at e; cases e
          generalize evE G.pr.con (run G.pr n) vs ρ m = r at q ⊢
          cases r with
          | no => exact q
          | exc x m1 => exact q.base st0
          | ok w m1 =>
            simp only [bnd_ok] at q
            rintro ps H1 α1 st1 ⟨xs, rx, hl, rfl⟩ me1
            have hp1 : H1 p = some (.dK []) := st1.keep p _ upd_same rfl hpα
            have hn1 : p ∉ α1 := st1.out upd_same hpα
            refine ⟨hp1, dPairs ks xs, rfl, by rw [dPairs_len hl]; exact h7, ?_⟩
            have em : mergeK [] (dPairs ks xs) = dPairs ks xs := by
              rw [merge_new _ [] (dPairs_nodup h4) (by simp)]; rfl
            rw [em]
            have hex : Ext H1 (L2.upd H1 p (.dK (dPairs ks xs))) := Ext.dk hp1
            have st3 : Stp H α (L2.upd H1 p (.dK (dPairs ks xs))) α1 := (st0.trans st1).over' hpn hex
            have me3 : MemR G (L2.upd H1 p (.dK (dPairs ks xs))) α1 m1 := me1.beside' hp1 rfl (fun q z => by unfold LamX.CodeO at z; cases z) hex hn1
            have rx3 := rx.ext hex Le.refl
            refine ⟨p, rfl, .inl ⟨_, .inl upd_same⟩, α1, ρ, m1, re.ext st3.ext st3.le, me3, Post.bnd (q.base st3) fun kv m2 y H4 α4 st4 ry me4 q4 => ⟨α4, ρ, m2, (re.ext st3.ext st3.le).ext st4.ext st4.le, me4, ?_⟩⟩
            generalize evE G.pr.con (run G.pr n) d ρ m2 = r2 at q4 ⊢
            cases r2 with
            | no => exact q4
            | exc x m1 => exact q4
            | ok v m3 =>
              simp only [bnd_ok] at q4
              intro z H5 α5 st5 rz me5
              cases kv with
              | str s =>
                cases ry with
                | d f =>
                  cases f
                  have hp5 : H5 p = some (.dK (dPairs ks xs)) := (st4.trans st5).keep p _ upd_same rfl hn1
                  refine ⟨valV (dPairs ks xs) (kOf s), .inl ⟨_, kOf s, .inl hp5, rfl, rfl⟩, ?_⟩
                  have rx5 := (rx3.ext st4.ext st4.le).ext st5.ext st5.le
                  obtain ⟨g1, g2⟩ := dPairs_get (s := s) (ks := ks) rx5
                  refine q4 _ H5 α5 st5 ?_ me5
                  cases e : valV (dPairs ks xs) (kOf s) with
                  | none => rw [g2 e]; exact rz
                  | some x =>
                    obtain ⟨u, e1, e2⟩ := g1 x e
                    rw [e1]
                    exact e2
              | _ => exact q4.elim
      | _ => simp only [chkE, Bool.false_eq_true] at h
    | _ => simp only [chkE, Bool.false_eq_true] at h
  | _ => simp only [chkE, Bool.false_eq_true] at h
/-! ### the place of a value in a list -/
theorem base_plain {e : Expr} {env : PySem.Env} {a : Str} {w : Sem Value} (h : (match e with
    | .Call _ [] [] _ => false
    | _ => true) = true) : attributeBase e a env w = w := by
  cases e with
  | Call f es kw p =>
    cases es <;> cases kw <;> first | (cases h; done) | (cases f <;> rfl)
  | _ => rfl
theorem datAll_get : ∀ {l : List PV} {i : Nat}, (datAll l)[i]? = l[i]?.map PV.dat
  | [], i => by simp [datAll]
  | x :: l, 0 => by simp [datAll]
  | x :: l, i + 1 => by
    show (datAll l)[i]? = _
    rw [datAll_get]; rfl
theorem ok_index {o e : E} (ho : OkE G lb n o) (he : OkE G lb n e) : OkE G lb n (.index o e) := by
  intro N sc ex X W C h
  cases ex with
  | Call fe es kw pos =>
    cases fe with
    | Attribute x y apos =>
      cases kw with
      | cons _ _ => simp only [chkE, Bool.false_eq_true] at h
      | nil =>
        rcases es with _ | ⟨z, _ | ⟨f, es⟩⟩ <;> simp only [chkE, Bool.false_eq_true, Bool.and_eq_true, decide_eq_true_eq] at h
        obtain ⟨⟨⟨⟨h1, h2⟩, h3⟩, h4⟩, h5⟩ := h
        subst h1
        refine PE.weak (pe_bm F.plainAttrs_list F.slot_list_index F.type_list_index (mt_indexD (by have := C.room.un; unfold cLine at *; omega)) (ho N sc _ X W C h3) (pa_cons (he N sc _ X W C h4) pa_nil (starEach_plain (chk_plain h4))) (base_plain h5) (few1 (chk_plain h4)) (by rw [h2]; exact beq_self_eq_true _) (starEach_plain (chk_plain h4)) rfl) fun σ H Q ⟨α, ρ, m, re, me, q⟩ => ⟨α, ρ, m, re, me, ?_⟩
        simp only [evE] at q
        refine Post.bnd q fun v m1 x H1 α1 st rv me1 q1 => ?_
        cases v with
        | lst l =>
          cases rv with
          | d f =>
            cases f with
            | lst z1 z2 z3 =>
              refine ⟨.inl ⟨rfl, _, z1.sq⟩, α1, ρ, m1, re.ext st.ext st.le, me1, Post.bnd q1 fun w m2 y H2 α2 st2 rw' me2 q2 => ?_⟩
              split at q2
              · rename_i hc
                simp only [Bool.and_eq_true, decide_eq_true_eq] at hc
                obtain ⟨⟨c1, c2⟩, c3⟩ := hc
                have dv := vw_dv rw' me2 c1
                have f2 : Fz G.K H2 (.ref _) (.lst l) := .lst (FL.ext st2.ext z1) z2 (z3.ext st2.ext)
                have dl := f2.dp
                rw [PV.dat] at dl
                cases hi : l.findIdx? fun z => z.eqv (vw m2 w) with
                | none => rw [hi] at q2; exact q2.elim
                | some j =>
                  rw [hi] at q2
                  obtain ⟨hj, p1, p2⟩ := List.findIdx?_eq_some_iff_getElem.mp hi
                  have ea : ∀ i (hl : i < l.length), PyData.eqv (l[i]).dat (vw m2 w).dat = (l[i]).eqv (vw m2 w) := fun i hl => by
                    obtain ⟨u, _, fu⟩ := (z3.ext st2.ext).get (List.getElem?_eq_getElem hl)
                    exact Dv.fzeqv fu dv
                  refine ⟨_, y, (vw m2 w).dat, datAll l, j, (l[j]).dat, rfl, rfl, by rw [C.K]; exact dl, by rw [C.K]; exact dv.dp, ?_, ?_, by rw [datAll_get, List.getElem?_eq_getElem hj]; rfl, by rw [ea j hj]; exact p1, fun i z' hij hz => ?_, Post.ok (v := PV.int _) q2 (.d (.int _)) me2⟩
                  · have h1 := f2.lay
                    have h2 := dat_dep (.lst l)
                    rw [PV.dat] at h1 h2
                    unfold SeqAt.shaped
                    rw [h1, h2, PV.dep]
                    simp only [Bool.true_and, decide_eq_true_eq]
                    omega
                  · have h1 := dv.lay
                    unfold SeqAt.shaped
                    rw [h1, dat_dep]
                    simp only [Bool.true_and, decide_eq_true_eq]
                    omega
                  · have hl : i < l.length := by omega
                    rw [datAll_get, List.getElem?_eq_getElem hl] at hz
                    cases hz
                    rw [ea i hl]
                    have := p2 i hij
                    simpa using this
              · exact q2.elim
        | _ => exact q1.elim
    | _ => simp only [chkE, Bool.false_eq_true] at h
  | _ => simp only [chkE, Bool.false_eq_true] at h
theorem strs_fz {K : PySem.W.Frag} {H : Hp} : ∀ {xs : List V} {l : List PV} {ss : List (List Nat)}, FzAll K H xs l → strsOf l = some ss → xs = (ss.map fun s => (⟨s.toArray⟩ : Str)).map V.str
  | _, _, ss, .nil, h => by simp [strsOf] at h; subst h; rfl
  | _, _, ss, .cons (d := d) r t, h => by
    cases d <;> simp [strsOf] at h
    obtain ⟨ts, h1, rfl⟩ := h
    cases r
    rw [List.map_cons, List.map_cons, ← strs_fz t h1]
theorem ok_indexc (hG : GOk G) {i : Nat} {e : E} (he : OkE G lb n e) : OkE G lb n (.indexc i e) := by
  intro N sc ex X W C h
  cases ex with
  | Call fe es kw pos =>
    cases fe with
    | Attribute x y apos =>
      cases x with
      | Name x px =>
        cases kw with
        | cons _ _ => rcases es with _ | ⟨z, _ | ⟨f, es⟩⟩ <;> simp only [chkE, Bool.false_eq_true] at h
        | nil =>
          rcases es with _ | ⟨z, _ | ⟨f, es⟩⟩ <;> simp only [chkE, Bool.false_eq_true, Bool.and_eq_true, decide_eq_true_eq] at h
          obtain ⟨⟨⟨⟨h1, h2⟩, h3⟩, h4⟩, h5⟩ := h
          subst h1
          obtain ⟨g1, g2⟩ := gl_ok C h4
          cases hc : G.pr.con[i]? with
          | none =>
            refine PE.weak (t := fun _ _ _ => False) ⟨fun _ _ _ _ _ _ h => h.elim⟩ fun σ H Q ⟨α, ρ, m, re, me, q⟩ => ?_
            simp only [evE, hc] at q
            exact q.elim
          | some cv =>
            cases cv with
            | tup l =>
              obtain ⟨a, o, c1, c2, c3, c4, xs, c5⟩ := hG.ctup i x l h3 hc
              refine PE.weak (pe_bm F.plainAttrs_tuple F.slot_tuple_index F.type_tuple_index mt_tup_index (pe_glob (v := .ref a) g1 (by rw [C.mg]; exact c1) rfl g2) (pa_cons (he N sc _ X W C h5) pa_nil (starEach_plain (chk_plain h5))) rfl (few1 (chk_plain h5)) (by rw [h2]; exact beq_self_eq_true _) (starEach_plain (chk_plain h5)) rfl) fun σ H Q ⟨α, ρ, m, re, me, q⟩ => ?_
              simp only [evE, hc] at q
              refine ⟨.inr (.inl ⟨rfl, o, by rw [C.K]; exact c2, c3, c4⟩), α, ρ, m, re, me, Post.bnd q fun w m2 y H2 α2 st2 rw' me2 q2 => ?_⟩
              cases w with
              | str s =>
                cases rw' with
                | d f =>
                  cases f
                  cases hs : strsOf l with
                  | none => simp only [hs] at q2; exact q2.elim
                  | some ss =>
                    simp only [hs] at q2
                    obtain ⟨c6, c7⟩ := c5 H2
                    have ex := strs_fz c7 hs
                    subst ex
                    cases hi : ss.findIdx? fun z => z == s with
                    | none => rw [hi] at q2; exact q2.elim
                    | some j =>
                      rw [hi] at q2
                      obtain ⟨hj, p1, p2⟩ := List.findIdx?_eq_some_iff_getElem.mp hi
                      have p1 : ss[j] = s := by simpa using p1
                      refine ⟨_, ss.map fun s => (⟨s.toArray⟩ : Str), _, j, rfl, rfl, by rw [C.K]; exact c6, by rw [List.getElem?_map, List.getElem?_eq_getElem hj, p1]; rfl, fun k hk e => ?_, Post.ok (v := PV.int _) q2 (.d (.int _)) me2⟩
                      have hk' : k < ss.length := by omega
                      rw [List.getElem?_map, List.getElem?_eq_getElem hk'] at e
                      have e2 : (⟨ss[k].toArray⟩ : Str) = ⟨s.toArray⟩ := Option.some.inj e
                      have e3 : ss[k] = s := by
                        have : ss[k].toArray = s.toArray := by injection e2
                        simpa using congrArg Array.toList this
                      have := p2 k hk
                      simp [e3] at this
              | _ => exact q2.elim
            | _ =>
              refine PE.weak (t := fun _ _ _ => False) ⟨fun _ _ _ _ _ _ h => h.elim⟩ fun σ H Q ⟨α, ρ, m, re, me, q⟩ => ?_
              simp only [evE, hc] at q
              exact q.elim
      | _ => cases kw <;> (try cases es) <;> simp only [chkE, Bool.false_eq_true] at h
    | _ => simp only [chkE, Bool.false_eq_true] at h
  | _ => simp only [chkE, Bool.false_eq_true] at h
/-! ### enumerate of a list -/
theorem enumL_length : ∀ (l : List PV) (k : Int), (enumL k l).length = l.length
  | [], _ => rfl
  | x :: l, k => by simp [enumL, enumL_length l]
theorem enumL_get : ∀ (l : List PV) (k : Int) (i : Nat) (x : PV), l[i]? = some x → (enumL k l)[i]? = some (.tup [.int (k + i), x])
  | [], _, i, x, h => by simp at h
  | u :: l, k, 0, x, h => by simp at h; simp [enumL, h]
  | u :: l, k, i + 1, x, h => by
    show (enumL (k + 1) l)[i]? = _
    rw [enumL_get l (k + 1) i x (by simpa using h)]
    congr 3
    push_cast
    congr 1
    omega
theorem GoodJ.enum {H : Hp} {α : Al} {a : Addr} {xs : List V} {l : List PV} (z1 : FL H a xs) (hx : FzAll G.K H xs l) (hz : xs.length ≤ sizeLine) : GoodJ G H α (Ite G.K a) (.lst (enumL 0 l)) := by
  refine .inl ⟨_, .inr rfl, by rw [enumL_length, ← hx.length]; exact hz, _, _, by rw [enumL_length, ← hx.length]; exact walk_enum (xs := xs), fun H' e => (FL.ext e z1).sq, fun i H1 x H2 e hi y => ?_⟩
  obtain ⟨T, u, v, rfl, hT, rfl, h1, h2⟩ := y
  cases h1
  obtain ⟨d2, e2, f2⟩ := hx.get' h2
  have hex : Ext H (L2.upd H1 T (.tup [.int (i : Nat), v])) := e.trans (Ext.new hT)
  exact ⟨.inr ⟨T, _, hT, rfl⟩, _, by simpa using enumL_get l 0 i d2 e2, .tup (SqT.of upd_same) (small_size (by simp)) (.cons (.int _) (.cons (f2.ext hex) .nil))⟩
theorem GoodJ.enumT {H : Hp} {α : Al} {a : Addr} {xs : List V} {l : List PV} (z1 : SqT G.K H a xs) (hx : FzAll G.K H xs l) (hz : xs.length ≤ sizeLine) : GoodJ G H α (IteT G.K a) (.lst (enumL 0 l)) := by
  have e0 : (enumL 0 l).length = xs.length := by rw [enumL_length, ← hx.length]
  refine .inl ⟨_, .inr rfl, by rw [e0]; exact hz, fun H => SqT G.K H a xs, fun i H v H' => ∃ T x, v = .ref T ∧ H T = none ∧ H' = L2.upd H T (.tup [.int (i : Nat), x]) ∧ xs[i]? = some x, ?_, fun H' e => SqT.ext e z1, fun i H1 x H2 e hi y => ?_⟩
  · rw [e0]
    exact ⟨fun i H hi q => ⟨_, q, hi⟩, fun H q => ⟨_, q, rfl⟩, fun i H x H' hi q ⟨T, u, h1, h2, h3, h4⟩ => ⟨T, u, h1, h2, h3, h4 _ q⟩⟩
  obtain ⟨T, v, rfl, hT, rfl, h2⟩ := y
  obtain ⟨d2, e2, f2⟩ := hx.get' h2
  have hex : Ext H (L2.upd H1 T (.tup [.int (i : Nat), v])) := e.trans (Ext.new hT)
  exact ⟨.inr ⟨T, _, hT, rfl⟩, _, by simpa using enumL_get l 0 i d2 e2, .tup (SqT.of upd_same) (small_size (by simp)) (.cons (.int _) (.cons (f2.ext hex) .nil))⟩
theorem ok_enu (hG : GOk G) {a : E} (ha : OkE G lb n a) : OkI G lb n (.enu a) := by
  intro N sc e tg X W C ht h
  cases tg <;> try (cases ht; done)
  cases e with
  | Call fe es kw pos =>
    cases fe with
    | Name x p =>
      cases kw with
      | cons _ _ => simp only [chkE, Bool.false_eq_true] at h
      | nil =>
        rcases es with _ | ⟨e, _ | ⟨f, es⟩⟩ <;> simp only [chkE, Bool.false_eq_true, Bool.and_eq_true, decide_eq_true_eq] at h
        obtain ⟨⟨h1, h2⟩, h3⟩ := h
        subst h1
        obtain ⟨g1, g2, g3, g4⟩ := blt_ok hG C h2
        have e1 := starEach_plain (es := []) (env := X.env) (chk_plain h3)
        refine PI.weak (pi_enuA g1 g2 (pa_cons (ha N sc _ X W C h3) pa_nil e1) e1) fun σ H R ⟨α, ρ, m, re, me, q⟩ => ⟨α, ρ, m, re, me, ?_⟩
        simp only [evE, bnd_assoc] at q
        refine Post.bnd q fun v m1 x H1 α1 st rv me1 q1 => ?_
        rw [C.K]
        cases v <;> try (exact q1.elim)
        · cases rv with
          | d f1 =>
            cases f1 with
            | tup z1 z2 z3 => exact ⟨_, _, rfl, .inr ⟨z1, Post.ok (rel := GoodJ G) q1 (GoodJ.enumT z1 z3 z2) me1⟩⟩
        · cases rv with
          | d f1 =>
            cases f1 with
            | lst z1 z2 z3 => exact ⟨_, _, rfl, .inl ⟨z1.sq, Post.ok (rel := GoodJ G) q1 (GoodJ.enum z1 z3 z2) me1⟩⟩
    | _ => simp only [chkE, Bool.false_eq_true] at h
  | _ => simp only [chkE, Bool.false_eq_true] at h
/-! ### tuple(range(..)) -/
theorem rgV_fz {K : PySem.W.Frag} {H : Hp} (a b : Int) : FzAll K H (rgV a b) (rangeL a (b - a).toNat) := by
  unfold rgV
  generalize (b - a).toNat = k
  induction k generalizing a with
  | zero => exact .nil
  | succ k ih =>
    rw [List.range_succ_eq_map, List.map_cons, List.map_map]
    show FzAll K H _ (.int a :: rangeL (a + 1) k)
    have e : (List.map ((fun i : Nat => V.int (a + (i : Nat))) ∘ Nat.succ) (List.range k)) = (List.range k).map fun i => V.int (a + 1 + (i : Nat)) := by
      apply List.map_congr_left
      intro i _
      show V.int (a + ((i + 1 : Nat) : Int)) = _
      congr 1
      push_cast
      omega
    rw [e]
    refine .cons ?_ (ih (a + 1))
    have e2 : a + ((0 : Nat) : Int) = a := by simp
    rw [e2]
    exact .int a
theorem rg_ok {a b : Int} (h1 : b - a ≤ (big : Int)) (h2 : small a = true) (h3 : small b = true) : RgOk a b := by
  obtain ⟨b1, b2⟩ := small_b h2
  obtain ⟨b3, b4⟩ := small_b h3
  refine ⟨b1, b2, b3, b4, ?_⟩
  have : (big : Int) = 2 ^ 24 := by decide
  omega
theorem rg_size {a b : Int} (h : RgOk a b) : (rgV a b).length ≤ sizeLine := by
  rw [rgV_length, sizeLine_eq]
  have := h.2.2.2.2
  omega
theorem ok_trng (hG : GOk G) {a : E} (ha : OkE G lb n a) : OkE G lb n (.trng a) := by
  intro N sc ex X W C h
  cases ex with
  | Call fe es kw pos =>
    cases fe with
    | Name x p =>
      cases kw with
      | cons _ _ => rcases es with _ | ⟨e1, _ | ⟨e2, es⟩⟩ <;> simp only [chkE, Bool.false_eq_true] at h
      | nil =>
        rcases es with _ | ⟨e1, _ | ⟨e2, es⟩⟩ <;> try (simp only [chkE, Bool.false_eq_true] at h; done)
        cases e1 with
        | Call fe2 es2 kw2 pos2 =>
          cases fe2 with
          | Name y p2 =>
            cases kw2 with
            | cons _ _ => rcases es2 with _ | ⟨e1, _ | ⟨e2, es⟩⟩ <;> simp only [chkE, Bool.false_eq_true] at h
            | nil =>
              rcases es2 with _ | ⟨e1, _ | ⟨e2, es⟩⟩ <;> simp only [chkE, Bool.false_eq_true, Bool.and_eq_true, decide_eq_true_eq] at h
              obtain ⟨⟨⟨⟨h1, h2⟩, h3⟩, h4⟩, h5⟩ := h
              subst h1 h3
              obtain ⟨g1, g2, g3, g4⟩ := blt_ok hG C h2
              obtain ⟨k1, k2, k3, k4⟩ := blt_ok hG C h4
              have s1 := starEach_plain (es := []) (env := X.env) (chk_plain h5)
              refine PE.weak (pe_tupRg C.calm g1 g2 (prg_1 k1 k2 (ha N sc _ X W C h5) s1)) fun σ H Q ⟨α, ρ, m, re, me, q⟩ => ⟨α, ρ, m, re, me, ?_⟩
              simp only [evE] at q
              refine Post.bnd q fun v m1 x H1 α1 st rv me1 q1 => ?_
              cases v <;> try (exact q1.elim)
              rename_i i
              have e2 := fz_int rv
              subst e2
              by_cases hb : i ≤ (big : Int) ∧ small i = true
              · simp only [if_pos hb] at q1
                have hr : RgOk 0 i := rg_ok (by omega) (by decide) hb.2
                refine ⟨i, rfl, hr, fun q hq => ?_⟩
                have e3 : (i - 0).toNat = i.toNat := by simp
                exact Post.ok (q1.base (Stp.laid hq)) (.d (.tup (SqT.of upd_same) (rg_size hr) (by rw [← e3]; exact rgV_fz 0 i))) (me1.upd hq)
              · simp only [if_neg hb] at q1
                exact q1.elim
          | _ => simp only [chkE, Bool.false_eq_true] at h
        | _ => simp only [chkE, Bool.false_eq_true] at h
    | _ => simp only [chkE, Bool.false_eq_true] at h
  | _ => simp only [chkE, Bool.false_eq_true] at h
theorem ok_trng2 (hG : GOk G) {a b : E} (ha : OkE G lb n a) (hb : OkE G lb n b) : OkE G lb n (.trng2 a b) := by
  intro N sc ex X W C h
  cases ex with
  | Call fe es kw pos =>
    cases fe with
    | Name x p =>
      cases kw with
      | cons _ _ => rcases es with _ | ⟨e1, _ | ⟨e2, es⟩⟩ <;> simp only [chkE, Bool.false_eq_true] at h
      | nil =>
        rcases es with _ | ⟨e1, _ | ⟨e2, es⟩⟩ <;> try (simp only [chkE, Bool.false_eq_true] at h; done)
        cases e1 with
        | Call fe2 es2 kw2 pos2 =>
          cases fe2 with
          | Name y p2 =>
            cases kw2 with
            | cons _ _ => rcases es2 with _ | ⟨e1, _ | ⟨e2, _ | ⟨e3, es⟩⟩⟩ <;> simp only [chkE, Bool.false_eq_true] at h
            | nil =>
              rcases es2 with _ | ⟨e1, _ | ⟨e2, _ | ⟨e3, es⟩⟩⟩ <;> simp only [chkE, Bool.false_eq_true, Bool.and_eq_true, decide_eq_true_eq] at h
              obtain ⟨⟨⟨⟨⟨h1, h2⟩, h3⟩, h4⟩, h5⟩, h6⟩ := h
              subst h1 h3
              obtain ⟨g1, g2, g3, g4⟩ := blt_ok hG C h2
              obtain ⟨k1, k2, k3, k4⟩ := blt_ok hG C h4
              have s1 := starEach_plain (es := [e2]) (env := X.env) (chk_plain h5)
              have s2 := starEach_plain (es := []) (env := X.env) (chk_plain h6)
              refine PE.weak (pe_tupRg C.calm g1 g2 (prg_2 k1 k2 (ha N sc _ X W C h5) (hb N sc _ X W C h6) s1 s2 (by rw [s2]; rfl))) fun σ H Q ⟨α, ρ, m, re, me, q⟩ => ⟨α, ρ, m, re, me, ?_⟩
              simp only [evE] at q
              refine Post.bnd q fun v m1 x H1 α1 st rv me1 q1 => ⟨α1, ρ, m1, re.ext st.ext st.le, me1, Post.bnd q1 fun w m2 y H2 α2 st2 rw' me2 q2 => ?_⟩
              cases v <;> cases w <;> try (exact q2.elim)
              rename_i i j
              have e3 := fz_int rv
              have e4 := fz_int rw'
              subst e3 e4
              by_cases hb : j - i ≤ (big : Int) ∧ small i = true ∧ small j = true
              · simp only [if_pos hb] at q2
                have hr : RgOk i j := rg_ok hb.1 hb.2.1 hb.2.2
                exact ⟨i, j, rfl, rfl, hr, fun q hq => Post.ok (q2.base (Stp.laid hq)) (.d (.tup (SqT.of upd_same) (rg_size hr) (rgV_fz i j))) (me2.upd hq)⟩
              · simp only [if_neg hb] at q2
                exact q2.elim
          | _ => simp only [chkE, Bool.false_eq_true] at h
        | _ => simp only [chkE, Bool.false_eq_true] at h
    | _ => simp only [chkE, Bool.false_eq_true] at h
  | _ => simp only [chkE, Bool.false_eq_true] at h
end
end Pv
namespace Pv
open PySem PySem.Spec PyProof.Rows L2
/-! ## What a def tells of a lambda -/
theorem zip_some {ps : List Str} : ∀ {us : List Value}, us.length = ps.length → ∀ n ∈ ps, ((ps.zip us).lookup n).isNone = false := by
  induction ps with
  | nil => intro us _ n h; simp at h
  | cons p ps ih =>
    intro us hl n hn
    cases us with
    | nil => cases hl
    | cons u us =>
      rw [List.zip_cons_cons, List.lookup_cons]
      cases e : n == p with
      | true => rfl
      | false =>
        rcases List.mem_cons.mp hn with rfl | hn
        · simp at e
        · exact ih (by simpa using hl) n hn
theorem zip_map {qs : List (Str × Value)} : ∀ {ps : List Str} {us : List Value}, us.length = ps.length → ps.Nodup → (∀ p ∈ ps, qs.lookup p = (ps.zip us).lookup p) → (ps.filterMap fun n => (qs.lookup n).map fun x => (n, x)) = ps.zip us := by
  intro ps
  induction ps with
  | nil => intro us _ _ _; rfl
  | cons p ps ih =>
    intro us hl hn hq
    cases us with
    | nil => cases hl
    | cons u us =>
      rw [List.nodup_cons] at hn
      have h1 : qs.lookup p = some u := by rw [hq p (by simp), List.zip_cons_cons, List.lookup_cons]; simp
      rw [List.filterMap_cons, h1]
      show (p, u) :: _ = _
      rw [ih (by simpa using hl) hn.2 fun x hx => ?_]
      · rfl
      · rw [hq x (by simp [hx]), List.zip_cons_cons, List.lookup_cons]
        have : (x == p) = false := by simp; rintro rfl; exact hn.1 hx
        rw [this]
theorem bind_gen {x qual : Str} {as : List Arg} {body : List Stmt} {scope : Scope} {kV doc pm : Value} {an : Option Addr} {cdv ct : Value} {us : List Value} (nd : (as.map (·.arg)).Nodup) (hl : us.length = (as.map (·.arg)).length) :
    bindArgs (PySem.W.fnOf x qual ⟨[], as, none, [], [], none, []⟩ body scope .none kV doc pm an cdv ct) ⟨us, []⟩ = pure ((as.map (·.arg)).zip us) := by
  generalize hps : as.map (·.arg) = ps at nd hl
  have e1 : (ps.filter fun n => ((ps.zip us).lookup n).isNone) = [] := by
    rw [List.filter_eq_nil_iff]
    intro n hn
    rw [zip_some hl n hn]; simp
  have e2 : (ps.filterMap fun n => ((ps.zip us).lookup n).map fun x => (n, x)) = ps.zip us := zip_map hl nd fun _ _ => rfl
  have e3 : ¬ (us.length > ps.length) := by omega
  unfold bindArgs
  simp only [PySem.W.fnOf, List.map_nil, List.nil_append, hps, List.append_nil]
  have es : seqItems? Value.none = pure none := rfl
  simp [es, hl, e1, e2]
def An.v : An → V
  | .word l => .str ⟨l.toArray⟩
  | .truth b => .bl b
section
variable {G : Glo} {lb : Bool} {n : Nat}
/-- what the clauses make of an exception -/
def wTell (K : PySem.W.Frag) (Q : VK) : List (Addr × An) → XK
  | [] => fun _ _ _ => False
  | (c, w) :: r => fun cls d H => ∃ b, PySem.W.exmOne K cls (.ref c) = some b ∧ (b = true → Q w.v H) ∧ (b = false → wTell K Q r cls d H)
def TTell (K : PySem.W.Frag) (cs : List (Addr × An)) (d : An) : (XK → Hp → VK → Prop) → Hp → VK → Prop := fun tl H Q => tl (wTell K Q cs) H fun _ H' => Q d.v H'
theorem an_pe {w : An} {c : Const} (h : anB w c = true) {X : Cx} {k : Nat} {p : Pos} : PE X (.Constant c k p) (tC w.v) := by
  cases w with
  | word l =>
    cases c <;> simp only [anB, Bool.false_eq_true, Bool.and_eq_true, decide_eq_true_eq] at h
    obtain ⟨⟨h1, _⟩, _⟩ := h
    subst h1
    exact pe_str
  | truth b =>
    cases c <;> simp only [anB, Bool.false_eq_true] at h
    have e := beq_iff_eq.mp h
    subst e
    exact pe_bl
theorem an_rp {w : An} {c : Const} (h : anB w c = true) {H : Hp} {α : Al} : Rp G H α w.v w.pv := by
  cases w with
  | word l =>
    cases c <;> simp only [anB, Bool.false_eq_true, Bool.and_eq_true, decide_eq_true_eq] at h
    obtain ⟨⟨_, h2⟩, h3⟩ := h
    exact .d (.str l h2 (small_size h3))
  | truth b => exact .d (.bl b)
def hdL (cs : List (Addr × An)) : List (Value × (Addr → Value → Option Addr → TS)) := cs.map fun q => (Value.ref q.1, fun _ _ _ => tRet (tC q.2.v))
theorem wMany_of {K : PySem.W.Frag} {D : Ends} {Q : VK} (hQ : D.rt = Q) : ∀ {cs : List (Addr × An)} {cls : Value} {d : Option Addr} {σ : L2.St} {H : Hp}, wTell K Q cs cls d H → wMany K (fun _ _ _ _ => False) D (hdL cs) cls d σ H
  | [], _, _, _, _, h => h
  | (c, w) :: r, cls, d, σ, H, ⟨b, h1, h2, h3⟩ => ⟨b, h1, fun e a _ => by subst hQ; exact h2 e, fun e => wMany_of hQ (h3 e)⟩
/-- the clauses' addresses -/
inductive Cl (G : Glo) : Cls → List (Addr × An) → Prop
  | nil : Cl G [] []
  | cons {j : Nat} {l : List Nat} {w : An} {ws : Cls} {a : Addr} {cs : List (Addr × An)} : G.ca[j]? = some a → l = (G.sub.filter fun q => q.2 == j).map (·.1) → (∀ H α, Rp G H α w.v w.pv) → Cl G ws cs → Cl G ((j, l, w) :: ws) ((a, w) :: cs)
theorem gloB_ok {sc : Scope} {x : Str} (h : gloB sc x = true) : sc.names.lookup x = some .globalImplicit ∧ (x == ("__debug__" : Str)) = false := by
  unfold gloB at h
  simp only [Bool.and_eq_true, decide_eq_true_eq, Bool.not_eq_true'] at h
  exact h
theorem cl_of (hG : GOk G) {sc : Scope} : ∀ {ws : Cls} {hds : List ExceptHandler}, hdB G.kx G.sub sc ws hds = true → ∃ cs, Cl G ws cs ∧ ∀ X : Cx, X.env.scope = sc → X.mg = G.mg → HdsOk X hds (hdL cs)
  | [], [], _ => ⟨[], .nil, fun _ _ _ => .nil⟩
  | [], _ :: _, h => by simp only [hdB, Bool.false_eq_true] at h
  | (j, l, w) :: ws, hds, h => by
    unfold hdB at h
    split at h
    · cases ‹(_ : Cls) = []›
    · rename_i e
      cases e
      simp only [Bool.and_eq_true, decide_eq_true_eq] at h
      obtain ⟨⟨⟨⟨h1, h2⟩, h3⟩, h4⟩, h5⟩ := h
      obtain ⟨cs, c1, c2⟩ := cl_of hG h5
      obtain ⟨a, a1, a2, _⟩ := hG.cls _ _ h1
      obtain ⟨g1, g2⟩ := gloB_ok h2
      refine ⟨(a, _) :: cs, .cons a1 h3 (fun H α => an_rp h4) c1, fun X e1 e2 => .cons ⟨?_, g2, .inl (by rw [e2]; exact a2)⟩ (fun _ _ _ _ _ _ _ => pss_one (ps_ret (an_pe h4))) (c2 X e1 e2)⟩
      show X.env.scope.names.lookup _ = _
      rw [e1]; exact g1
    · cases h
theorem sub_below {sub : List (Nat × Nat)} {i j : Nat} : ((sub.filter fun q => q.2 == j).map (·.1)).contains i = sub.contains (i, j) := by
  rw [Bool.eq_iff_iff, List.contains_iff_mem, List.contains_iff_mem, List.mem_map]
  constructor
  · rintro ⟨⟨a, b⟩, h1, h2⟩
    obtain ⟨h3, h4⟩ := List.mem_filter.mp h1
    have e : b = j := by simpa using h4
    have e2 : a = i := h2
    rw [e, e2] at h3
    exact h3
  · intro h
    exact ⟨(i, j), List.mem_filter.mpr ⟨h, by simp⟩, rfl⟩
theorem tell_exc (hG : GOk G) (hx : G.hx ≠ []) {Q : VK} {E : EW} {xn : Xn} {m' : Mem} {C : Value} {d : Option Addr} {H' : Hp} {α' : Al} (me : MemR G H' α' m') (x : XnR G xn C d) :
    ∀ {ws : Cls} {cs : List (Addr × An)}, Cl G ws cs → ∀ {H : Hp} {α : Al}, Stp H α H' α' → Post G (Rp G) (match ws.at xn.c with | some w => R.ok w.pv m' | none => R.no) H α Q E → wTell G.K Q cs C d H'
  | _, _, .nil, _, _, _, q => q.elim
  | _, _, .cons (j := j) (l := l) (w := w) (ws := ws) (a := a) (cs := cs) h1 h2 h3 h4, H, α, st, q => by
    obtain ⟨b, e1, e2, e3⟩ := x
    subst e2
    refine ⟨_, hG.exm hx _ _ _ _ e1 h1, fun e => ?_, fun e => ?_⟩
    · have hc : l.contains xn.c = true := by rw [h2, sub_below]; exact e
      have : Cls.at ((j, l, w) :: ws) xn.c = some w := by
        unfold Cls.at
        rw [List.find?_cons]
        show Option.map _ (match l.contains xn.c with | true => _ | false => _) = _
        rw [hc]; rfl
      rw [this] at q
      exact q w.v H' α' st (h3 H' α') me
    · have hc : l.contains xn.c = false := by rw [h2, sub_below]; exact e
      have : Cls.at ((j, l, w) :: ws) xn.c = Cls.at ws xn.c := by
        unfold Cls.at
        rw [List.find?_cons]
        show Option.map _ (match l.contains xn.c with | true => _ | false => _) = _
        rw [hc]
      rw [this] at q
      exact tell_exc hG hx me ⟨b, e1, rfl, e3⟩ h4 st q
/-- the def's text gives it -/
theorem tell_gives {cs : List (Addr × An)} {d : An} {Ng : List Str} {x a q : Str} {sg : Scope} {g : Addr} {cdg : Value} {h0 : ExceptHandler} {hds : List ExceptHandler} {c : Const} {j : Nat} {p1 p2 p3 p4 p5 p6 : Pos} {X : Cx}
    (hh : ∀ Y : Cx, Y.env.scope = sg → Y.mg = X.mg → HdsOk Y (h0 :: hds) (hdL cs)) (hd : anB d c = true) (hs : ∀ f : Addr, (L2.start Ng [V.ref f])[0]? = some (some (V.ref f))) :
    LamX.GivesTo X Ng x sg g cdg [.Try [.Expr (.Call (.Name a p1) [] [] p2) p3] (h0 :: hds) [] [] p4, .Return (some (.Constant c j p5)) p6] a q (TTell X.K cs d) := by
  intro f c' s H Q tl act hc h
  refine ⟨_, pss_cons (ps_try_many (X := (cxOf C8.CX0 X.prog X.w X.K X.mg X.base Ng x sg g cdg X.A X.stack s H C8.E0).nox)
      (tb := fun W D σ H => ∃ Ech : XK, (∀ cls d σ' H', Ech cls d H' → W cls d σ' H') ∧ σ[0]? = some (some (.ref f)) ∧ H c' = some (LamX.CodeO c' q) ∧ tl Ech H (fun _ H' => D.nx σ H'))
      rfl rfl LamX.takes0 (fun W pn xe tk _ => ?_) (hh _ rfl rfl)) (pss_one (ps_ret (an_pe hd))), ?_⟩
  · refine ⟨fun pins s' σ H' D I h' => ?_⟩
    obtain ⟨Ech, hW, h1, h2, h3⟩ := h'
    have hp := act W pn xe Ech p1 p2 tk hW
    have hq := pss_one (ps_expr (pos := p3) hp)
    exact hq.run pins s' σ H' D I ⟨h1, h2, h3⟩
  · exact ⟨wTell X.K Q cs, fun cls d σ' H' w => wMany_of rfl w, hs f, hc, h⟩
theorem ext_of_N {H H' : Hp} (e : LamX.ExtN H H') : Ext H H' := ⟨fun x y h => e _ _ h (fun ps z => by cases z), fun x y z h => e _ _ h (fun ps z => by cases z)⟩
theorem stp_of_N {H H' : Hp} {α : Al} (e : LamX.ExtN H H') : Stp H α H' α :=
  ⟨ext_of_N e, Le.refl, fun _ h => .inl h, fun a o h z _ => e a o h (fun ps q => by rw [q] at z; cases z), fun a o h z => ⟨o, e a o h (fun ps q => by rw [q] at z; cases z), z⟩⟩
theorem mem_of_N {H H' : Hp} {α : Al} {m : Mem} (e : LamX.ExtN H H') (t : LamX.Tabs G.T H') (me : MemR G H α m) : MemR G H' α m :=
  ⟨t, me.len, me.nd, fun k a l e1 e2 => by
    obtain ⟨xs, h1, h2, h3⟩ := me.at_ k a l e1 e2
    exact ⟨xs, e _ _ h1 (fun ps z => by cases z), h2.ext (ext_of_N e) Le.refl, h3⟩⟩
theorem ok_tell (hG : GOk G) {ws : Cls} {d : An} {e : E} (he : OkE G false n e) : OkE G true n (.tell ws d e) := by
  intro N sc ex X W C h
  cases ex with
  | Call fe es kw pos =>
    cases fe with
    | Name x p =>
      rcases es with _ | ⟨e1, _ | ⟨_, _⟩⟩ <;> try (simp only [chkE, Bool.false_eq_true] at h; done)
      cases kw with
      | cons _ _ => cases e1 <;> simp only [chkE, Bool.false_eq_true] at h
      | nil =>
        cases e1 with
        | Lambda params body scope lpos =>
          simp only [chkE, Bool.and_eq_true] at h
          obtain ⟨⟨⟨⟨h1, h2⟩, h3⟩, h4⟩, h5⟩ := h
          have hm : (⟨x, ws, d⟩ : Hl) ∈ G.hx := List.contains_iff_mem.mp h1
          have hx : G.hx ≠ [] := fun z => by rw [z] at hm; cases hm
          obtain ⟨g, st, fd, m1, m2, m3, m4⟩ := hG.hlp _ hm
          obtain ⟨rm, lt⟩ := C.lam rfl
          obtain ⟨c, P, hcode, TB, hmT, hu⟩ := lt hx
          have L : LamX.LamS X.env.scope scope := by rw [C.sc]; exact LamX.lamS_by h3
          have hp := noPar_eq h4
          subst hp
          unfold hlB at m4
          split at m4
          · rename_i a y p1 p2 p3 h0 hds p4 cn cj p5 p6 ea eb
            simp only [Bool.and_eq_true, decide_eq_true_eq, Bool.not_eq_true'] at m4
            obtain ⟨⟨⟨⟨⟨⟨⟨⟨⟨⟨n1, n2⟩, n3⟩, n4⟩, n5⟩, n6⟩, n7⟩, n8⟩, n9⟩, n10⟩, n11⟩ := m4
            subst n1
            rw [argsOf_eq ea, eb] at m3
            have bn : L2.Binds G.K fd [a.arg] [] := m3.bindsN (ps := [a.arg]) fun kV doc pm an cdv ct us hl => bind_gen (as := [a]) (by simp) hl
            obtain ⟨oc, od, dV, kV, doc, pm, an, cdv, ct, osl, rfl, lk, hcg, _, _⟩ := m3.ex
            obtain ⟨cs, cl, hh⟩ := cl_of hG n11
            have Sg : FnScope [a.arg] [a.arg] (defScope st) := ⟨n5, n6, n7, by simp, rfl, fun x hx => by rw [List.mem_singleton] at hx; subst hx; exact .inl n8, fun y hy => by have := List.all_eq_true.mp n9 y hy; simpa using this⟩
            obtain ⟨gl1, gl2⟩ := gl_ok C h2
            refine PE.weak (LamX.pe_lamcall (T := G.T) (TT := TTell X.K cs d) (t := fun E => tE G n (fun C d _ H => E C d H) e) (k := 3 * n + 5) gl1 (by rw [C.mg]; exact m1) (by rw [C.K]; exact m2) (by rw [C.K]; exact lk) (by rw [C.K]; exact hcg) (by rw [C.K]; exact bn) Sg rfl (.inl n8)
              (tell_gives (fun Y e1 e2 => hh Y e1 (by rw [e2, C.mg])) n10 (fun f => rfl)) (by rw [C.base, C.mg]; exact TB) hcode hmT hu rm L rfl (fun _ _ _ _ _ => rfl) (fun A outer s H E f c' hr => he N scope body _ (fun C d _ H => E C d H) ⟨C.prog, C.w, C.K, C.mg, C.base, C.nm, C.nd, L.kind, rfl, hr, rfl, takes_of rfl rfl rfl rfl, passes_of rfl, fun z => nomatch z⟩ h5) n4 n2 n3) fun σ H Q ⟨α, ρ, m, re, me, q⟩ => ⟨me.tab, fun H1 eN T1 => ⟨α, ρ, m, re.ext (ext_of_N eN) Le.refl, mem_of_N eN T1 me, ?_⟩⟩
            simp only [evE] at q
            have q := q.base (stp_of_N eN)
            rw [C.K]
            generalize evE G.pr.con (run G.pr n) e ρ m = r at q ⊢
            cases r with
            | no => exact q
            | ok v m1 => exact fun x H' α' st rx me' => q d.v H' α' st (an_rp n10) me'
            | exc xn m1 => exact fun C' d' H' α' st me' hx' => tell_exc hG hx me' hx' cl st q
          · cases m4
        | _ => simp only [chkE, Bool.false_eq_true] at h
    | _ => simp only [chkE, Bool.false_eq_true] at h
  | _ => simp only [chkE, Bool.false_eq_true] at h
end
end Pv
namespace Pv
open PySem PySem.Spec PyProof.Rows L2
section
variable {G : Glo} {lb : Bool} {n : Nat}
theorem ok_wild : OkE G lb n .wild := by
  intro N sc ex X W C h
  exact PE.weak (t := fun _ _ _ => False) ⟨fun _ _ _ _ _ _ h => h.elim⟩ fun σ H Q ⟨α, ρ, m, re, me, q⟩ => q.elim
def tIte (a b c : TT) : TT := fun σ H Q => a σ H fun k H1 => if k = true then b σ H1 Q else c σ H1 Q
theorem pt_ite {X : Cx} {a b c : Expr} {ta tb tc : TT} {pos : Pos} (ha : PT X a ta) (hb : PT X b tb) (hc : PT X c tc) : PT X (.IfExp a b c pos) (tIte ta tb tc) := by
  refine ⟨fun pins s0 σ Ho Q Io hw => ?_⟩
  show wpAny _ _ (do if ← isTrue a X.env (eval a X.env) then isTrue b X.env (eval b X.env) else isTrue c X.env (eval c X.env)) _ _ _
  refine wpAny_bind (thn (ha.run pins s0 σ Ho _ Io hw) fun k s1 ⟨H1, I1, q1⟩ => ?_)
  cases k with
  | true => exact hb.run pins s1 σ H1 Q I1 q1
  | false => exact hc.run pins s1 σ H1 Q I1 q1
theorem okT_ite {c a b : E} (hc : OkT G lb n c) (ha : OkT G lb n a) (hb : OkT G lb n b) : OkT G lb n (.ite c a b) := by
  intro N sc e X W C h
  cases e <;> simp only [chkE, Bool.false_eq_true, Bool.and_eq_true] at h
  obtain ⟨⟨h1, h2⟩, h3⟩ := h
  refine PT.weak (pt_ite (hc N sc _ X W C h1) (ha N sc _ X W C h2) (hb N sc _ X W C h3)) fun σ H Q ⟨α, ρ, m, re, me, q⟩ => ⟨α, ρ, m, re, me, ?_⟩
  simp only [evE] at q
  generalize evE G.pr.con (run G.pr n) c ρ m = r at q ⊢
  cases r with
  | no => exact q
  | exc x m => exact q
  | ok v m1 =>
    simp only [bnd_ok] at q ⊢
    unfold tstB
    split at q
    · rename_i e
      rw [e]
      intro x H1 α1 st rv me1
      subst rv
      rw [if_pos rfl]
      exact ⟨α1, ρ, m1, re.ext st.ext st.le, me1, q.base st⟩
    · rename_i e
      rw [e]
      intro x H1 α1 st rv me1
      subst rv
      rw [if_neg Bool.false_ne_true]
      exact ⟨α1, ρ, m1, re.ext st.ext st.le, me1, q.base st⟩
    · exact q.elim
theorem plain_true {e : Expr} (h : (match e with
    | .UnaryOp .Not _ _ => false
    | .BoolOp .. => false
    | .IfExp .. => false
    | .Compare .. => false
    | _ => true) = true) (env : PySem.Env) (whole : Sem Value) : isTrue e env whole = (do let v ← whole; standAt e.pos; holding [v] (truthy v)) := by
  cases e <;> first | rfl | (cases h; done) | skip
  rename_i op _ _
  cases op <;> first | rfl | (cases h; done)
/-- a test that is a value -/
theorem okT_plain {c : E} (h : OkE G lb n c) (hp : ∀ (N : List Str) (sc : Scope) (e : Expr), chkE G.nms N c sc e = true → (match e with
    | .UnaryOp .Not _ _ => false
    | .BoolOp .. => false
    | .IfExp .. => false
    | .Compare .. => false
    | _ => true) = true) : OkT G lb n c := okT_of h fun N sc e env hk whole => plain_true (hp N sc e hk) env whole
theorem okE_none {c : E} (h : ∀ (N : List Str) (sc : Scope) (e : Expr), chkE G.nms N c sc e = true → False) : OkE G lb n c := fun N sc e X W C hk => (h N sc e hk).elim
theorem okT_none {c : E} (h : ∀ (N : List Str) (sc : Scope) (e : Expr), chkE G.nms N c sc e = true → False) : OkT G lb n c := fun N sc e X W C hk => (h N sc e hk).elim
theorem okI_none {c : E} (h : ∀ (N : List Str) (sc : Scope) (e : Expr), chkE G.nms N c sc e = true → False) : OkI G lb n c := fun N sc e tg X W C _ hk => (h N sc e hk).elim
structure Va (G : Glo) (lb : Bool) (n : Nat) (c : E) : Prop where
  e : OkE G lb n c
  t : OkT G lb n c
  l : OkL G lb n c
  p : OkP G lb n c
  w : OkW G lb n c
theorem va_mk {c : E} (he : OkE G lb n c) (ht : OkT G lb n c) (hl : ∀ (N : List Str) (sc : Scope) (es : List Expr), chkL G.nms N c sc es = true → False) (hw : ∀ (N : List Str) (sc : Scope) (op : BoolOp) (vs : List Expr) (pos : Pos), chkE G.nms N c sc (.BoolOp op vs pos) = true → False) : Va G lb n c :=
  ⟨he, ht, okL_none hl, okP_none hl, okW_no hw⟩
theorem ok_all (hG : GOk G) (hF : FnsOk G n) : ∀ (c : E) (lb : Bool), (vOk lb c = true → Va G lb n c) ∧ (iOk lb c = true → OkI G lb n c) := by
  intro c
  induction c with
  | k v =>
    intro lb
    exact ⟨fun h => va_mk (ok_k hG v) (okT_plain (ok_k hG v) (fun N sc e h => by cases v <;> cases e <;> first | rfl | (simp only [chkE, Bool.false_eq_true] at h; done) | (rename_i op _ _; cases op <;> first | rfl | (simp only [chkE, Bool.false_eq_true] at h; done)))) (fun N sc es h => by cases es <;> simp only [chkL, Bool.false_eq_true] at h) (fun N sc op vs pos h => by cases v <;> simp only [chkE, Bool.false_eq_true] at h), fun h => okI_val (ok_k hG v)⟩
  | loc i =>
    intro lb
    exact ⟨fun h => va_mk (ok_loc i) (okT_plain (ok_loc i) (fun N sc e h => by cases e <;> first | rfl | (simp only [chkE, Bool.false_eq_true] at h; done) | (rename_i op _ _; cases op <;> first | rfl | (simp only [chkE, Bool.false_eq_true] at h; done)))) (fun N sc es h => by cases es <;> simp only [chkL, Bool.false_eq_true] at h) (fun N sc op vs pos h => by simp only [chkE, Bool.false_eq_true] at h), fun h => okI_val (ok_loc i)⟩
  | glo i =>
    intro lb
    exact ⟨fun h => va_mk (ok_glo hG i) (okT_plain (ok_glo hG i) (fun N sc e h => by cases e <;> first | rfl | (simp only [chkE, Bool.false_eq_true] at h; done) | (rename_i op _ _; cases op <;> first | rfl | (simp only [chkE, Bool.false_eq_true] at h; done)))) (fun N sc es h => by cases es <;> simp only [chkL, Bool.false_eq_true] at h) (fun N sc op vs pos h => by simp only [chkE, Bool.false_eq_true] at h), fun h => okI_val (ok_glo hG i)⟩
  | bin mu o a b iha ihb =>
    intro lb
    have hv : vOk lb (.bin mu o a b) = true → OkE G lb n (.bin mu o a b) := fun h => by
      simp only [vOk, Bool.and_eq_true] at h
      obtain ⟨h0, h1⟩ := h
      exact ok_bin ((iha lb).1 h0).e ((ihb lb).1 h1).e
    refine ⟨fun h => va_mk (hv h) (okT_plain (hv h) (fun N sc e h => by cases e <;> first | rfl | (simp only [chkE, Bool.false_eq_true] at h; done) | (rename_i op _ _; cases op <;> first | rfl | (simp only [chkE, Bool.false_eq_true] at h; done)))) (fun N sc es h => by cases es <;> simp only [chkL, Bool.false_eq_true] at h) (fun N sc op vs pos h => by simp only [chkE, Bool.false_eq_true] at h), fun h => ?_⟩
    exact okI_val (hv (by simpa only [vOk, iOk] using h))
  | neg a iha =>
    intro lb
    have hv : vOk lb (.neg a) = true → OkE G lb n (.neg a) := fun h => by
      simp only [vOk, Bool.and_eq_true] at h
      have h0 := h
      exact ok_neg ((iha lb).1 h0).e
    refine ⟨fun h => va_mk (hv h) (okT_plain (hv h) (fun N sc e h => by cases e <;> first | rfl | (simp only [chkE, Bool.false_eq_true] at h; done) | (rename_i op _ _; cases op <;> first | rfl | (simp only [chkE, Bool.false_eq_true] at h; done)))) (fun N sc es h => by cases es <;> simp only [chkL, Bool.false_eq_true] at h) (fun N sc op vs pos h => by simp only [chkE, Bool.false_eq_true] at h), fun h => ?_⟩
    simp only [iOk, Bool.false_eq_true] at h
  | not a iha =>
    intro lb
    refine ⟨fun h => ?_, fun h => ?_⟩
    · simp only [vOk, Bool.and_eq_true] at h
      have h0 := h
      exact va_mk (ok_not ((iha lb).1 h0).e) (okT_not ((iha lb).1 h0).t) (fun N sc es h => by cases es <;> simp only [chkL, Bool.false_eq_true] at h) (fun N sc op vs pos h => by simp only [chkE, Bool.false_eq_true] at h)
    · simp only [iOk, Bool.false_eq_true] at h
  | and a b iha ihb =>
    intro lb
    refine ⟨fun h => ?_, fun h => ?_⟩
    · simp only [vOk, Bool.and_eq_true] at h
      obtain ⟨h0, h1⟩ := h
      exact ⟨ok_and ((iha lb).1 h0).e ((ihb lb).1 h1).e, okT_w (okW_and ((iha lb).1 h0).t ((ihb lb).1 h1).t ((ihb lb).1 h1).w) (fun N sc e h => by cases e <;> first | exact ⟨_, _, _, rfl⟩ | (simp only [chkE, Bool.false_eq_true] at h)), okL_none (fun N sc es h => by cases es <;> simp only [chkL, Bool.false_eq_true] at h), okP_none (fun N sc es h => by cases es <;> simp only [chkL, Bool.false_eq_true] at h), okW_and ((iha lb).1 h0).t ((ihb lb).1 h1).t ((ihb lb).1 h1).w⟩
    · simp only [iOk, Bool.false_eq_true] at h
  | or a b iha ihb =>
    intro lb
    refine ⟨fun h => ?_, fun h => ?_⟩
    · simp only [vOk, Bool.and_eq_true] at h
      obtain ⟨h0, h1⟩ := h
      exact ⟨ok_or ((iha lb).1 h0).e ((ihb lb).1 h1).e, okT_w (okW_or ((iha lb).1 h0).t ((ihb lb).1 h1).t ((ihb lb).1 h1).w) (fun N sc e h => by cases e <;> first | exact ⟨_, _, _, rfl⟩ | (simp only [chkE, Bool.false_eq_true] at h)), okL_none (fun N sc es h => by cases es <;> simp only [chkL, Bool.false_eq_true] at h), okP_none (fun N sc es h => by cases es <;> simp only [chkL, Bool.false_eq_true] at h), okW_or ((iha lb).1 h0).t ((ihb lb).1 h1).t ((ihb lb).1 h1).w⟩
    · simp only [iOk, Bool.false_eq_true] at h
  | cmp c a b iha ihb =>
    intro lb
    refine ⟨fun h => ?_, fun h => ?_⟩
    · simp only [vOk, Bool.and_eq_true] at h
      obtain ⟨h0, h1⟩ := h
      exact va_mk (ok_cmp ((iha lb).1 h0).e ((ihb lb).1 h1).e) (okT_cmp ((iha lb).1 h0).e ((ihb lb).1 h1).e) (fun N sc es h => by cases es <;> simp only [chkL, Bool.false_eq_true] at h) (fun N sc op vs pos h => by simp only [chkE, Bool.false_eq_true] at h)
    · simp only [iOk, Bool.false_eq_true] at h
  | cmp2 c d a b e iha ihb ihe =>
    intro lb
    refine ⟨fun h => ?_, fun h => ?_⟩
    · simp only [vOk, Bool.and_eq_true] at h
      obtain ⟨⟨h0, h1⟩, h2⟩ := h
      exact va_mk (ok_cmp2 ((iha lb).1 h0).e ((ihb lb).1 h1).e ((ihe lb).1 h2).e) (okT_cmp2 ((iha lb).1 h0).e ((ihb lb).1 h1).e ((ihe lb).1 h2).e) (fun N sc es h => by cases es <;> simp only [chkL, Bool.false_eq_true] at h) (fun N sc op vs pos h => by simp only [chkE, Bool.false_eq_true] at h)
    · simp only [iOk, Bool.false_eq_true] at h
  | ite c a b ihc iha ihb =>
    intro lb
    have hv : vOk lb (.ite c a b) = true → OkE G lb n (.ite c a b) ∧ OkT G lb n (.ite c a b) := fun h => by
      simp only [vOk, Bool.and_eq_true] at h
      obtain ⟨⟨h0, h1⟩, h2⟩ := h
      exact ⟨ok_ite ((ihc lb).1 h0).t ((iha lb).1 h1).e ((ihb lb).1 h2).e, okT_ite ((ihc lb).1 h0).t ((iha lb).1 h1).t ((ihb lb).1 h2).t⟩
    refine ⟨fun h => va_mk (hv h).1 (hv h).2 (fun N sc es h => by cases es <;> simp only [chkL, Bool.false_eq_true] at h) (fun N sc op vs pos h => by simp only [chkE, Bool.false_eq_true] at h), fun h => ?_⟩
    exact okI_val (hv (by simpa only [vOk, iOk] using h)).1
  | nil =>
    intro lb
    refine ⟨fun h => ⟨okE_none fun N sc e h => ?_, okT_none fun N sc e h => ?_, okL_nil, okP_nil, okW_no fun N sc op vs pos h => ?_⟩, fun h => ?_⟩
    · simp only [chkE, Bool.false_eq_true] at h
    · simp only [chkE, Bool.false_eq_true] at h
    · simp only [chkE, Bool.false_eq_true] at h
    · simp only [iOk, Bool.false_eq_true] at h
  | cons a l iha ihl =>
    intro lb
    refine ⟨fun h => ?_, fun h => ?_⟩
    · simp only [vOk, Bool.and_eq_true] at h
      obtain ⟨h0, h1⟩ := h
      refine ⟨okE_none fun N sc e h => ?_, okT_none fun N sc e h => ?_, okL_cons ((iha lb).1 h0).e ((ihl lb).1 h1).l, okP_cons ((iha lb).1 h0).e ((ihl lb).1 h1).p, okW_no fun N sc op vs pos h => ?_⟩
      · simp only [chkE, Bool.false_eq_true] at h
      · simp only [chkE, Bool.false_eq_true] at h
      · simp only [chkE, Bool.false_eq_true] at h
    · simp only [iOk, Bool.false_eq_true] at h
  | tup l ihl =>
    intro lb
    have hv : vOk lb (.tup l) = true → OkE G lb n (.tup l) := fun h => by
      simp only [vOk, Bool.and_eq_true] at h
      have h0 := h
      exact ok_tup ((ihl lb).1 h0).l
    refine ⟨fun h => va_mk (hv h) (okT_plain (hv h) (fun N sc e h => by cases e <;> first | rfl | (simp only [chkE, Bool.false_eq_true] at h; done) | (rename_i op _ _; cases op <;> first | rfl | (simp only [chkE, Bool.false_eq_true] at h; done)))) (fun N sc es h => by cases es <;> simp only [chkL, Bool.false_eq_true] at h) (fun N sc op vs pos h => by simp only [chkE, Bool.false_eq_true] at h), fun h => ?_⟩
    exact okI_val (hv (by simpa only [vOk, iOk] using h))
  | lst mu l ihl =>
    intro lb
    have hv : vOk lb (.lst mu l) = true → OkE G lb n (.lst mu l) := fun h => by
      simp only [vOk, Bool.and_eq_true] at h
      have h0 := h
      exact ok_lst ((ihl lb).1 h0).l
    refine ⟨fun h => va_mk (hv h) (okT_plain (hv h) (fun N sc e h => by cases e <;> first | rfl | (simp only [chkE, Bool.false_eq_true] at h; done) | (rename_i op _ _; cases op <;> first | rfl | (simp only [chkE, Bool.false_eq_true] at h; done)))) (fun N sc es h => by cases es <;> simp only [chkL, Bool.false_eq_true] at h) (fun N sc op vs pos h => by simp only [chkE, Bool.false_eq_true] at h), fun h => ?_⟩
    exact okI_val (hv (by simpa only [vOk, iOk] using h))
  | ix a b iha ihb =>
    intro lb
    have hv : vOk lb (.ix a b) = true → OkE G lb n (.ix a b) := fun h => by
      simp only [vOk, Bool.and_eq_true] at h
      obtain ⟨h0, h1⟩ := h
      exact ok_ix ((iha lb).1 h0).e ((ihb lb).1 h1).e
    refine ⟨fun h => va_mk (hv h) (okT_plain (hv h) (fun N sc e h => by cases e <;> first | rfl | (simp only [chkE, Bool.false_eq_true] at h; done) | (rename_i op _ _; cases op <;> first | rfl | (simp only [chkE, Bool.false_eq_true] at h; done)))) (fun N sc es h => by cases es <;> simp only [chkL, Bool.false_eq_true] at h) (fun N sc op vs pos h => by simp only [chkE, Bool.false_eq_true] at h), fun h => ?_⟩
    exact okI_val (hv (by simpa only [vOk, iOk] using h))
  | sl a b c iha ihb ihc =>
    intro lb
    have hv : vOk lb (.sl a b c) = true → OkE G lb n (.sl a b c) := fun h => by
      simp only [vOk, Bool.and_eq_true] at h
      obtain ⟨⟨h0, h1⟩, h2⟩ := h
      exact ok_sl ((iha lb).1 h0).e ((ihb lb).1 h1).e ((ihc lb).1 h2).e
    refine ⟨fun h => va_mk (hv h) (okT_plain (hv h) (fun N sc e h => by cases e <;> first | rfl | (simp only [chkE, Bool.false_eq_true] at h; done) | (rename_i op _ _; cases op <;> first | rfl | (simp only [chkE, Bool.false_eq_true] at h; done)))) (fun N sc es h => by cases es <;> simp only [chkL, Bool.false_eq_true] at h) (fun N sc op vs pos h => by simp only [chkE, Bool.false_eq_true] at h), fun h => ?_⟩
    exact okI_val (hv (by simpa only [vOk, iOk] using h))
  | rev a iha =>
    intro lb
    refine ⟨fun h => ⟨okE_none fun N sc e h => ?_, okT_none fun N sc e h => ?_, okL_none (fun N sc es h => by cases es <;> simp only [chkL, Bool.false_eq_true] at h), okP_none (fun N sc es h => by cases es <;> simp only [chkL, Bool.false_eq_true] at h), okW_no fun N sc op vs pos h => ?_⟩, fun h => okI_none fun N sc e h => ?_⟩
    · cases e <;> simp only [chkE, Bool.false_eq_true] at h
    · cases e <;> simp only [chkE, Bool.false_eq_true] at h
    · simp only [chkE, Bool.false_eq_true] at h
    · cases e <;> simp only [chkE, Bool.false_eq_true] at h
  | call f l ihl =>
    intro lb
    have hv : vOk lb (.call f l) = true → OkE G lb n (.call f l) := fun h => by
      simp only [vOk, Bool.and_eq_true] at h
      have h0 := h
      exact ok_call hG hF ((ihl lb).1 h0).l
    refine ⟨fun h => va_mk (hv h) (okT_plain (hv h) (fun N sc e h => by cases e <;> first | rfl | (simp only [chkE, Bool.false_eq_true] at h; done) | (rename_i op _ _; cases op <;> first | rfl | (simp only [chkE, Bool.false_eq_true] at h; done)))) (fun N sc es h => by cases es <;> simp only [chkL, Bool.false_eq_true] at h) (fun N sc op vs pos h => by simp only [chkE, Bool.false_eq_true] at h), fun h => ?_⟩
    exact okI_val (hv (by simpa only [vOk, iOk] using h))
  | callv f l ihf ihl =>
    intro lb
    have hv : vOk lb (.callv f l) = true → OkE G lb n (.callv f l) := fun h => by
      simp only [vOk, Bool.and_eq_true] at h
      obtain ⟨h0, h1⟩ := h
      exact ok_callv hF ((ihf lb).1 h0).e ((ihl lb).1 h1).l
    refine ⟨fun h => va_mk (hv h) (okT_plain (hv h) (fun N sc e h => by cases e <;> first | rfl | (simp only [chkE, Bool.false_eq_true] at h; done) | (rename_i op _ _; cases op <;> first | rfl | (simp only [chkE, Bool.false_eq_true] at h; done)))) (fun N sc es h => by cases es <;> simp only [chkL, Bool.false_eq_true] at h) (fun N sc op vs pos h => by simp only [chkE, Bool.false_eq_true] at h), fun h => ?_⟩
    exact okI_val (hv (by simpa only [vOk, iOk] using h))
  | bf mu b l ihl =>
    intro lb
    have hv : vOk lb (.bf mu b l) = true → OkE G lb n (.bf mu b l) := fun h => by
      simp only [vOk, Bool.and_eq_true] at h
      have h0 := h
      exact ok_bf hG ((ihl lb).1 h0).l
    refine ⟨fun h => va_mk (hv h) (okT_plain (hv h) (fun N sc e h => by cases e <;> first | rfl | (simp only [chkE, Bool.false_eq_true] at h; done) | (rename_i op _ _; cases op <;> first | rfl | (simp only [chkE, Bool.false_eq_true] at h; done)))) (fun N sc es h => by cases es <;> simp only [chkL, Bool.false_eq_true] at h) (fun N sc op vs pos h => by simp only [chkE, Bool.false_eq_true] at h), fun h => ?_⟩
    exact okI_val (hv (by simpa only [vOk, iOk] using h))
  | isi a t iha =>
    intro lb
    have hv : vOk lb (.isi a t) = true → OkE G lb n (.isi a t) := fun h => by
      simp only [vOk, Bool.and_eq_true] at h
      have h0 := h
      exact ok_isi hG ((iha lb).1 h0).e
    refine ⟨fun h => va_mk (hv h) (okT_plain (hv h) (fun N sc e h => by cases e <;> first | rfl | (simp only [chkE, Bool.false_eq_true] at h; done) | (rename_i op _ _; cases op <;> first | rfl | (simp only [chkE, Bool.false_eq_true] at h; done)))) (fun N sc es h => by cases es <;> simp only [chkL, Bool.false_eq_true] at h) (fun N sc op vs pos h => by simp only [chkE, Bool.false_eq_true] at h), fun h => ?_⟩
    simp only [iOk, Bool.false_eq_true] at h
  | rng a iha =>
    intro lb
    refine ⟨fun h => ?_, fun h => ?_⟩
    · simp only [vOk, Bool.false_eq_true] at h
    · simp only [iOk, Bool.and_eq_true] at h
      have h0 := h
      exact ok_rng hG ((iha lb).1 h0).e
  | rng2 a b iha ihb =>
    intro lb
    refine ⟨fun h => ?_, fun h => ?_⟩
    · simp only [vOk, Bool.false_eq_true] at h
    · simp only [iOk, Bool.and_eq_true] at h
      obtain ⟨h0, h1⟩ := h
      exact ok_rng2 hG ((iha lb).1 h0).e ((ihb lb).1 h1).e
  | enu a iha =>
    intro lb
    refine ⟨fun h => ?_, fun h => ?_⟩
    · simp only [vOk, Bool.false_eq_true] at h
    · simp only [iOk] at h
      exact ok_enu hG ((iha lb).1 h).e
  | zip a b iha ihb =>
    intro lb
    refine ⟨fun h => ?_, fun h => ?_⟩
    · simp only [vOk, Bool.false_eq_true] at h
    · simp only [iOk, Bool.and_eq_true] at h
      obtain ⟨h0, h1⟩ := h
      exact ok_zip hG ((iha lb).1 h0).e ((ihb lb).1 h1).e
  | zip3 a b c iha ihb ihc =>
    intro lb
    refine ⟨fun h => ?_, fun h => ?_⟩
    · simp only [vOk, Bool.false_eq_true] at h
    · simp only [iOk, Bool.and_eq_true] at h
      obtain ⟨⟨h0, h1⟩, h2⟩ := h
      exact ok_zip3 hG ((iha lb).1 h0).e ((ihb lb).1 h1).e ((ihc lb).1 h2).e
  | trng a iha =>
    intro lb
    have hv : vOk lb (.trng a) = true → OkE G lb n (.trng a) := fun h => by
      simp only [vOk] at h
      exact ok_trng hG ((iha lb).1 h).e
    refine ⟨fun h => va_mk (hv h) (okT_plain (hv h) (fun N sc e h => by cases e <;> first | rfl | (simp only [chkE, Bool.false_eq_true] at h; done) | (rename_i op _ _; cases op <;> first | rfl | (simp only [chkE, Bool.false_eq_true] at h; done)))) (fun N sc es h => by cases es <;> simp only [chkL, Bool.false_eq_true] at h) (fun N sc op vs pos h => by simp only [chkE, Bool.false_eq_true] at h), fun h => ?_⟩
    exact okI_val (hv (by simpa only [vOk, iOk] using h))
  | trng2 a b iha ihb =>
    intro lb
    have hv : vOk lb (.trng2 a b) = true → OkE G lb n (.trng2 a b) := fun h => by
      simp only [vOk, Bool.and_eq_true] at h
      obtain ⟨h0, h1⟩ := h
      exact ok_trng2 hG ((iha lb).1 h0).e ((ihb lb).1 h1).e
    refine ⟨fun h => va_mk (hv h) (okT_plain (hv h) (fun N sc e h => by cases e <;> first | rfl | (simp only [chkE, Bool.false_eq_true] at h; done) | (rename_i op _ _; cases op <;> first | rfl | (simp only [chkE, Bool.false_eq_true] at h; done)))) (fun N sc es h => by cases es <;> simp only [chkL, Bool.false_eq_true] at h) (fun N sc op vs pos h => by simp only [chkE, Bool.false_eq_true] at h), fun h => ?_⟩
    exact okI_val (hv (by simpa only [vOk, iOk] using h))
  | wild =>
    intro lb
    refine ⟨fun _ => va_mk ok_wild (okT_plain ok_wild (fun N sc e h => by
      simp only [chkE] at h
      cases e <;> first | rfl | (simp only [wildB, Bool.false_eq_true] at h; done) | (rename_i op _ _; cases op <;> first | rfl | (simp only [wildB, Bool.false_eq_true] at h; done)))) (fun N sc es h => by cases es <;> simp only [chkL, Bool.false_eq_true] at h) (fun N sc op vs pos h => by simp only [chkE, wildB, Bool.false_eq_true] at h), fun h => ?_⟩
    simp only [iOk, Bool.false_eq_true] at h
  | comp mu own t s c e ihs ihc ihe =>
    intro lb
    have hv : vOk lb (.comp mu own t s c e) = true → OkE G lb n (.comp mu own t s c e) := fun h => by
      simp only [vOk, Bool.and_eq_true] at h
      obtain ⟨⟨h0, h1⟩, h2⟩ := h
      exact ok_comp ((ihs lb).2 h0) ((ihc lb).1 h1).t ((ihe lb).1 h2).e
    refine ⟨fun h => va_mk (hv h) (okT_plain (hv h) (fun N sc e h => by cases e <;> first | rfl | (simp only [chkE, Bool.false_eq_true] at h; done) | (rename_i op _ _; cases op <;> first | rfl | (simp only [chkE, Bool.false_eq_true] at h; done)))) (fun N sc es h => by cases es <;> simp only [chkL, Bool.false_eq_true] at h) (fun N sc op vs pos h => by simp only [chkE, Bool.false_eq_true] at h), fun h => ?_⟩
    exact okI_val (hv (by simpa only [vOk, iOk] using h))
  | app o e iho ihe =>
    intro lb
    have hv : vOk lb (.app o e) = true → OkE G lb n (.app o e) := fun h => by
      simp only [vOk, Bool.and_eq_true] at h
      obtain ⟨h0, h1⟩ := h
      exact ok_app ((iho lb).1 h0).e ((ihe lb).1 h1).e
    refine ⟨fun h => va_mk (hv h) (okT_plain (hv h) (fun N sc e h => by cases e <;> first | rfl | (simp only [chkE, Bool.false_eq_true] at h; done) | (rename_i op _ _; cases op <;> first | rfl | (simp only [chkE, Bool.false_eq_true] at h; done)))) (fun N sc es h => by cases es <;> simp only [chkL, Bool.false_eq_true] at h) (fun N sc op vs pos h => by simp only [chkE, Bool.false_eq_true] at h), fun h => ?_⟩
    simp only [iOk, Bool.false_eq_true] at h
  | popl o iho =>
    intro lb
    have hv : vOk lb (.popl o) = true → OkE G lb n (.popl o) := fun h => by
      simp only [vOk, Bool.and_eq_true] at h
      have h0 := h
      exact ok_popl ((iho lb).1 h0).e
    refine ⟨fun h => va_mk (hv h) (okT_plain (hv h) (fun N sc e h => by cases e <;> first | rfl | (simp only [chkE, Bool.false_eq_true] at h; done) | (rename_i op _ _; cases op <;> first | rfl | (simp only [chkE, Bool.false_eq_true] at h; done)))) (fun N sc es h => by cases es <;> simp only [chkL, Bool.false_eq_true] at h) (fun N sc op vs pos h => by simp only [chkE, Bool.false_eq_true] at h), fun h => ?_⟩
    exact okI_val (hv (by simpa only [vOk, iOk] using h))
  | popi o i iho ihi =>
    intro lb
    have hv : vOk lb (.popi o i) = true → OkE G lb n (.popi o i) := fun h => by
      simp only [vOk, Bool.and_eq_true] at h
      obtain ⟨h0, h1⟩ := h
      exact ok_popi ((iho lb).1 h0).e ((ihi lb).1 h1).e
    refine ⟨fun h => va_mk (hv h) (okT_plain (hv h) (fun N sc e h => by cases e <;> first | rfl | (simp only [chkE, Bool.false_eq_true] at h; done) | (rename_i op _ _; cases op <;> first | rfl | (simp only [chkE, Bool.false_eq_true] at h; done)))) (fun N sc es h => by cases es <;> simp only [chkL, Bool.false_eq_true] at h) (fun N sc op vs pos h => by simp only [chkE, Bool.false_eq_true] at h), fun h => ?_⟩
    exact okI_val (hv (by simpa only [vOk, iOk] using h))
  | index o e iho ihe =>
    intro lb
    have hv : vOk lb (.index o e) = true → OkE G lb n (.index o e) := fun h => by
      simp only [vOk, Bool.and_eq_true] at h
      obtain ⟨h0, h1⟩ := h
      exact ok_index ((iho lb).1 h0).e ((ihe lb).1 h1).e
    refine ⟨fun h => va_mk (hv h) (okT_plain (hv h) (fun N sc e h => by cases e <;> first | rfl | (simp only [chkE, Bool.false_eq_true] at h; done) | (rename_i op _ _; cases op <;> first | rfl | (simp only [chkE, Bool.false_eq_true] at h; done)))) (fun N sc es h => by cases es <;> simp only [chkL, Bool.false_eq_true] at h) (fun N sc op vs pos h => by simp only [chkE, Bool.false_eq_true] at h), fun h => ?_⟩
    simp only [iOk, Bool.false_eq_true] at h
  | indexc i e ihe =>
    intro lb
    have hv : vOk lb (.indexc i e) = true → OkE G lb n (.indexc i e) := fun h => by
      simp only [vOk, Bool.and_eq_true] at h
      exact ok_indexc hG ((ihe lb).1 h).e
    refine ⟨fun h => va_mk (hv h) (okT_plain (hv h) (fun N sc e h => by cases e <;> first | rfl | (simp only [chkE, Bool.false_eq_true] at h; done) | (rename_i op _ _; cases op <;> first | rfl | (simp only [chkE, Bool.false_eq_true] at h; done)))) (fun N sc es h => by cases es <;> simp only [chkL, Bool.false_eq_true] at h) (fun N sc op vs pos h => by simp only [chkE, Bool.false_eq_true] at h), fun h => ?_⟩
    simp only [iOk, Bool.false_eq_true] at h
  | dget ks a b c iha ihb ihc =>
    intro lb
    have hv : vOk lb (.dget ks a b c) = true → OkE G lb n (.dget ks a b c) := fun h => by
      simp only [vOk, Bool.and_eq_true] at h
      obtain ⟨⟨h0, h1⟩, h2⟩ := h
      exact ok_dget ((iha lb).1 h0).p ((ihb lb).1 h1).e ((ihc lb).1 h2).e
    refine ⟨fun h => va_mk (hv h) (okT_plain (hv h) (fun N sc e h => by cases e <;> first | rfl | (simp only [chkE, Bool.false_eq_true] at h; done) | (rename_i op _ _; cases op <;> first | rfl | (simp only [chkE, Bool.false_eq_true] at h; done)))) (fun N sc es h => by cases es <;> simp only [chkL, Bool.false_eq_true] at h) (fun N sc op vs pos h => by simp only [chkE, Bool.false_eq_true] at h), fun h => ?_⟩
    exact okI_val (hv (by simpa only [vOk, iOk] using h))
  | tell ws d e ihe =>
    intro lb
    have hv : vOk lb (.tell ws d e) = true → OkE G lb n (.tell ws d e) := fun h => by
      simp only [vOk, Bool.and_eq_true] at h
      obtain ⟨h0, h1⟩ := h
      subst h0
      exact ok_tell hG ((ihe false).1 h1).e
    refine ⟨fun h => va_mk (hv h) (okT_plain (hv h) (fun N sc e h => by cases e <;> first | rfl | (simp only [chkE, Bool.false_eq_true] at h; done) | (rename_i op _ _; cases op <;> first | rfl | (simp only [chkE, Bool.false_eq_true] at h; done)))) (fun N sc es h => by cases es <;> simp only [chkL, Bool.false_eq_true] at h) (fun N sc op vs pos h => by simp only [chkE, Bool.false_eq_true] at h), fun h => ?_⟩
    simp only [iOk, Bool.false_eq_true] at h
end
end Pv
namespace Pv
open PySem PySem.Spec PyProof.Rows L2
/-! ## Statements -/
def isSeq : S → Bool
  | .seq _ _ => true
  | _ => false
def noComp : Expr → Bool
  | .ListComp .. => false
  | .SetComp .. => false
  | .DictComp .. => false
  | _ => true
def noTup : Expr → Bool
  | .Tuple .. => false
  | _ => true
def ownB (scope : Scope) (y : Str) : Bool := scope.names.any fun (n, k) => n == y && (k == .local || k == .cell)
def asgB (sc : Scope) (y : Str) (py : Pos) : Expr → Bool
  | .ListComp _ _ scope pos => (decide (sc.names.lookup y = some .local) && (py.line == pos.line) && !(ownB scope y)) || decide (sc.names.lookup y = some .cell)
  | _ => decide (sc.names.lookup y = some .local) || decide (sc.names.lookup y = some .cell)
def parA (N : List Str) (sc : Scope) (es : List Expr) : Tg → List Expr → Bool
  | .t (.cons (.v i) (.cons (.v j) .nil)), [.Name x px, .Name y py] => decide (N[i]? = some x) && decide (N[j]? = some y) && decide (sc.names.lookup x = some .local) && decide (sc.names.lookup y = some .local) && decide (i ≠ j) && decide (x ≠ y) && decide (py.line = px.line) &&
    decide (es.length = 2) && !(es.all (foldedForSure 8)) && !(es.all (constantsAlone 8))
  | .t (.cons (.v i) (.cons (.v j) (.cons (.v l) .nil))), [.Name x px, .Name y py, .Name z pz] => decide (N[i]? = some x) && decide (N[j]? = some y) && decide (N[l]? = some z) && decide (sc.names.lookup x = some .local) && decide (sc.names.lookup y = some .local) && decide (sc.names.lookup z = some .local) &&
    decide (i ≠ j) && decide (i ≠ l) && decide (j ≠ l) && decide (x ≠ y) && decide (x ≠ z) && decide (y ≠ z) && decide (py.line = px.line) && decide (pz.line = px.line) && decide (es.length = 3) && !(es.all (foldedForSure 8)) && !(es.all (constantsAlone 8))
  | _, _ => false
def notLoc (sc : Scope) : Expr → Bool
  | .Name x _ => !decide (sc.names.lookup x = some .local)
  | _ => true
def parG (N : List Str) (sc : Scope) (es : List Expr) : Tg → List Expr → Bool
  | .t tl, ts => chkTs N (fun _ => true) sc tl ts && decide (ts.length ≤ 1000) && (!(ts.length == 2 || ts.length == 3) || es.length != ts.length || es.all (foldedForSure 8) || ts.any (notLoc sc))
  | _, _ => false
def parB (N : List Str) (sc : Scope) (es : List Expr) (t : Tg) (ts : List Expr) : Bool := parA N sc es t ts || parG N sc es t ts
section
variable (nm : Nm) (N : List Str)
def chkS : S → Scope → List Stmt → Bool
  | .skip, _, [] => true
  | .skip, _, [.Pass _] => true
  | .seq a b, sc, st :: rest => !(isSeq a) && chkS a sc [st] && chkS b sc rest
  | .ex e, sc, [.Expr x _] => vOk true e && chkE nm N e sc x && noComp x
  | .ret e, sc, [.Return (some x) _] => vOk true e && chkE nm N e sc x
  | .ret (.k .non), _, [.Return none _] => true
  | .asg (.v i) e, sc, [.Assign [.Name y py] x pos] => vOk true e && decide (N[i]? = some y) && chkE nm N e sc x && asgB sc y py x
  | .asg (.t l) e, sc, [.Assign [.Tuple ts _ _] x pos] => vOk true e && chkTs N (fun _ => true) sc l ts && chkE nm N e sc x && noTup x && noComp x
  | .par t l, sc, [.Assign [.Tuple ts _ _] (.Tuple es _ _) pos] => vOk true l && chkL nm N l sc es && parB N sc es t ts
  | .setix o i e, sc, [.Assign [.Subscript x y _] z pos] => vOk true o && vOk true i && vOk true e && chkE nm N o sc x && chkE nm N i sc y && chkE nm N e sc z && noComp z
  | .ite c a b, sc, [.If t xs ys _] => vOk true c && chkE nm N c sc t && chkS a sc xs && chkS b sc ys
  | .for_ t s b, sc, [.For tg iter body [] _] => iOk true s && srcT s tg && chkE nm N s sc iter && chkT N (fun _ => true) sc t tg && chkS b sc body
  | .whl c b, sc, [.While t body [] _] => vOk true c && chkE nm N c sc t && chkS b sc body
  | .brk, _, [.Break _] => true
  | .cnt, _, [.Continue _] => true
  | .stop, _, [_] => true
  | .raise c, sc, [.Raise (some (.Call (.Name x _) [.Constant (.str _) _ _] [] _)) none _] => decide (nm.kx[c]? = some x) && glB sc x
  | _, _, _ => false
end
def PostS (G : Glo) (W : WX) (r : R (Fl × Env)) (H : Hp) (α : Al) (D : Ends) : Prop := match r with
  | .ok (f, ρ) m => ∀ H' α', Stp H α H' α' → MemR G H' α' m → (match f with
    | .next => ∀ σ', EnvR G H' α' ρ σ' → D.nx σ' H'
    | .brk => ∀ σ', EnvR G H' α' ρ σ' → D.bk σ' H'
    | .cnt => ∀ σ', EnvR G H' α' ρ σ' → D.ct σ' H'
    | .ret v => ∀ x, Rp G H' α' x v → D.rt x H')
  | .exc xn m => ∀ C d σ' H' α', Stp H α H' α' → MemR G H' α' m → XnR G xn C d → W C d σ' H'
  | .no => False
section
variable {G : Glo} {n : Nat} {W : WX} {H H1 : Hp} {α α1 : Al} {D : Ends}
theorem PostS.base {r : R (Fl × Env)} (h : PostS G W r H α D) (e : Stp H α H1 α1) : PostS G W r H1 α1 D := by
  cases r with
  | ok v m =>
    obtain ⟨f, ρ⟩ := v
    exact fun H' α' e' me => h H' α' (e.trans e') me
  | exc x m => exact fun C d σ' H' α' e' => h C d σ' H' α' (e.trans e')
  | no => exact h
theorem PostS.bnd {γ β : Type} {rel : Hp → Al → β → γ → Prop} {r : R γ} {f : γ → Mem → R (Fl × Env)} {S : β → Hp → Prop} {σ : L2.St} (h : PostS G W (Pv.bnd r f) H α D)
    (k : ∀ v m' x H1 α1, Stp H α H1 α1 → rel H1 α1 x v → MemR G H1 α1 m' → PostS G W (f v m') H1 α1 D → S x H1) : Post G rel r H α S (wE W σ) := by
  cases r with
  | ok v m => exact fun x H' α' e r me => k v m x H' α' e r me (PostS.base (r := f v m) h e)
  | exc x m => exact fun C d H' α' e me hx => h C d σ H' α' e me hx
  | no => exact h
theorem PostS.next {ρ : Env} {m : Mem} {σ : L2.St} (h : PostS G W (.ok (.next, ρ) m) H α D) (re : EnvR G H α ρ σ) (me : MemR G H α m) : D.nx σ H := h H α Stp.refl me σ re
def tS (G : Glo) (n : Nat) (W : WX) (c : S) : TS := fun D σ H => ∃ α ρ m, EnvR G H α ρ σ ∧ MemR G H α m ∧ PostS G W (evS G.pr.con (run G.pr n) c ρ m) H α D
/-- the frame of a def -/
structure CF (G : Glo) (n : Nat) (N : List Str) (sc : Scope) (W : WX) (X : Cx) : Prop extends CG G true n N sc W X where
  fn : ∀ x, X.fn x = true
def OkS (G : Glo) (n : Nat) (c : S) : Prop := ∀ (N : List Str) (sc : Scope) (sts : List Stmt) (X : Cx) (W : WX), CF G n N sc W X → chkS G.nms N c sc sts = true → PSs X sts (tS G n W c)
def OkS1 (G : Glo) (n : Nat) (c : S) : Prop := ∀ (N : List Str) (sc : Scope) (st : Stmt) (X : Cx) (W : WX), CF G n N sc W X → chkS G.nms N c sc [st] = true → PS X st (tS G n W c)
theorem okS_one {c : S} (h : OkS1 G n c) (h1 : ∀ (N : List Str) (sc : Scope) (sts : List Stmt), chkS G.nms N c sc sts = true → ∃ st, sts = [st]) : OkS G n c := by
  intro N sc sts X W C hk
  obtain ⟨st, rfl⟩ := h1 N sc sts hk
  exact pss_one (h N sc st X W C hk)
theorem okS1_skip : OkS1 G n .skip := by
  intro N sc st X W C h
  cases st <;> simp only [chkS, Bool.false_eq_true] at h
  exact PS.weak ps_pass fun D σ H ⟨α, ρ, m, re, me, q⟩ => PostS.next q re me
theorem okS_skip : OkS G n .skip := by
  intro N sc sts X W C h
  rcases sts with _ | ⟨st, _ | ⟨s2, r⟩⟩
  · exact PSs.weak pss_nil fun D σ H ⟨α, ρ, m, re, me, q⟩ => PostS.next q re me
  · exact pss_one (okS1_skip N sc st X W C h)
  · cases st <;> simp only [chkS, Bool.false_eq_true] at h
theorem okS1_stop : OkS1 G n .stop := by
  intro N sc st X W C h
  exact PS.weak (t := fun _ _ _ => False) ⟨fun _ _ _ _ _ _ h => h.elim⟩ fun D σ H ⟨α, ρ, m, re, me, q⟩ => q.elim
theorem okS_stop : OkS G n .stop := okS_one okS1_stop fun N sc sts h => by
  rcases sts with _ | ⟨st, _ | ⟨s2, r⟩⟩
  · simp only [chkS, Bool.false_eq_true] at h
  · exact ⟨st, rfl⟩
  · simp only [chkS, Bool.false_eq_true] at h
theorem okS_seq {a b : S} (ha : OkS1 G n a) (hb : OkS G n b) : OkS G n (.seq a b) := by
  intro N sc sts X W C h
  cases sts with
  | nil => simp only [chkS, Bool.false_eq_true] at h
  | cons st rest =>
    simp only [chkS, Bool.and_eq_true] at h
    obtain ⟨⟨h0, h1⟩, h2⟩ := h
    refine PSs.weak (pss_cons (ha N sc st X W C h1) (hb N sc rest X W C h2)) fun D σ H ⟨α, ρ, m, re, me, q⟩ => ⟨α, ρ, m, re, me, ?_⟩
    simp only [evS] at q
    generalize evS G.pr.con (run G.pr n) a ρ m = r at q ⊢
    cases r with
    | no => exact q
    | exc x m => exact q
    | ok v m1 =>
      obtain ⟨f, ρ1⟩ := v
      simp only [bnd_ok] at q
      intro H1 α1 st1 me1
      cases f with
      | next => exact fun σ1 re1 => ⟨α1, ρ1, m1, re1, me1, PostS.base q st1⟩
      | brk => exact fun σ1 re1 => q H1 α1 st1 me1 σ1 re1
      | cnt => exact fun σ1 re1 => q H1 α1 st1 me1 σ1 re1
      | ret v => exact fun x rx => q H1 α1 st1 me1 x rx
theorem noComp_sw {e : Expr} {t : Option Expr} {l : Nat} {env : PySem.Env} (h : noComp e = true) : swapsWith e t l env = pure false := by
  cases e <;> first | rfl | (cases h; done)
theorem noComp_sole {tg e : Expr} {l : Nat} {env : PySem.Env} (h : noComp e = true) : swapsWithSole [tg] e l env = pure false := noComp_sw h
theorem okS1_ex {e : E} (he : vOk true e = true → OkE G true n e) : OkS1 G n (.ex e) := by
  intro N sc st X W C h
  cases st <;> simp only [chkS, Bool.false_eq_true, Bool.and_eq_true] at h
  obtain ⟨⟨h0, h1⟩, h2⟩ := h
  refine PS.weak (ps_expr (he h0 N sc _ X W C.toCG h1) (noComp_sw h2)) fun D σ H ⟨α, ρ, m, re, me, q⟩ => ⟨α, ρ, m, re, me, ?_⟩
  simp only [evS] at q
  exact PostS.bnd q fun v m1 x H1 α1 st rv me1 q1 => PostS.next q1 (re.ext st.ext st.le) me1
theorem okS1_ret {e : E} (he : vOk true e = true → OkE G true n e) : OkS1 G n (.ret e) := by
  intro N sc st X W C h
  cases st with
  | Return v p =>
    cases v with
    | none =>
      have e1 : e = .k .non := by
        unfold chkS at h
        split at h <;> first | rfl | (simp_all; done) | skip
        all_goals simp_all
      subst e1
      exact PS.weak ps_retN fun D σ H ⟨α, ρ, m, re, me, q⟩ => q H α Stp.refl me .non (.d .non)
    | some x =>
      simp only [chkS, Bool.and_eq_true] at h
      refine PS.weak (ps_ret (he h.1 N sc _ X W C.toCG h.2)) fun D σ H ⟨α, ρ, m, re, me, q⟩ => ⟨α, ρ, m, re, me, ?_⟩
      simp only [evS] at q
      exact PostS.bnd q fun v m1 x H1 α1 st rv me1 q1 => q1 H1 α1 Stp.refl me1 x rv
  | _ => simp only [chkS, Bool.false_eq_true] at h
theorem okS1_ite {c : E} {a b : S} (hc : vOk true c = true → OkT G true n c) (ha : OkS G n a) (hb : OkS G n b) : OkS1 G n (.ite c a b) := by
  intro N sc st X W C h
  cases st <;> simp only [chkS, Bool.false_eq_true, Bool.and_eq_true] at h
  obtain ⟨⟨⟨h0, h1⟩, h2⟩, h3⟩ := h
  refine PS.weak (ps_if (hc h0 N sc _ X W C.toCG h1) (ha N sc _ X W C h2) (hb N sc _ X W C h3)) fun D σ H ⟨α, ρ, m, re, me, q⟩ => ⟨α, ρ, m, re, me, ?_⟩
  simp only [evS] at q
  generalize evE G.pr.con (run G.pr n) c ρ m = r at q ⊢
  cases r with
  | no => exact q
  | exc x m => exact fun C d H' α' st me hx => q C d σ H' α' st me hx
  | ok v m1 =>
    simp only [bnd_ok] at q ⊢
    unfold tstB
    cases e : truth m1 v with
    | none => rw [e] at q; exact q.elim
    | some b =>
      rw [e] at q
      intro x H1 α1 st rv me1
      subst rv
      cases x with
      | true => rw [if_pos rfl]; exact ⟨α1, ρ, m1, re.ext st.ext st.le, me1, PostS.base q st⟩
      | false => rw [if_neg Bool.false_ne_true]; exact ⟨α1, ρ, m1, re.ext st.ext st.le, me1, PostS.base q st⟩
theorem okS1_brk : OkS1 G n .brk := by
  intro N sc st X W C h
  cases st <;> simp only [chkS, Bool.false_eq_true] at h
  exact PS.weak ps_break fun D σ H ⟨α, ρ, m, re, me, q⟩ => q H α Stp.refl me σ re
theorem okS1_cnt : OkS1 G n .cnt := by
  intro N sc st X W C h
  cases st <;> simp only [chkS, Bool.false_eq_true] at h
  exact PS.weak ps_continue fun D σ H ⟨α, ρ, m, re, me, q⟩ => q H α Stp.refl me σ re
theorem okS1_raise (hG : GOk G) {c : Nat} : OkS1 G n (.raise c) := by
  intro N sc st X W C h
  cases st with
  | Raise v f pos =>
    cases v with
    | none => simp only [chkS, Bool.false_eq_true] at h
    | some e =>
      cases f with
      | some _ => cases e <;> simp only [chkS, Bool.false_eq_true] at h
      | none =>
        cases e with
        | Call fe es kw p =>
          cases fe with
          | Name x px =>
            cases kw with
            | cons _ _ => simp only [chkS, Bool.false_eq_true] at h
            | nil =>
              rcases es with _ | ⟨e, _ | ⟨e2, es⟩⟩
              · simp only [chkS, Bool.false_eq_true] at h
              · cases e with
                | Constant k z1 z2 =>
                  cases k with
                  | str w =>
                    simp only [chkS, Bool.and_eq_true, decide_eq_true_eq] at h
                    obtain ⟨h1, h2⟩ := h
                    obtain ⟨g1, g2⟩ := gl_ok C.toCG h2
                    obtain ⟨a, e1, e2, e3, e4, e5, e6⟩ := hG.cls _ _ (by simpa [Glo.nms] using h1)
                    refine PS.weak (ps_raise C.calm C.tk (pmk_own PySem.F.excBase_ValueError (C := a) (by rw [C.K]; exact e3) (by rw [C.mg]; exact e2) (by rw [C.K]; exact e4) (raises_own (by rw [C.K]; exact e5) (by rw [C.K]; exact e6)) g1 g2)) fun D σ H ⟨α, ρ, m, re, me, q⟩ => ?_
                    exact q (.ref a) none σ H α Stp.refl me ⟨a, e1, rfl, rfl⟩
                  | _ => simp only [chkS, Bool.false_eq_true] at h
                | _ => simp only [chkS, Bool.false_eq_true] at h
              · cases e <;> first | (simp only [chkS, Bool.false_eq_true] at h; done) | (rename_i k _ _; cases k <;> simp only [chkS, Bool.false_eq_true] at h; done)
          | _ => simp only [chkS, Bool.false_eq_true] at h
        | _ => simp only [chkS, Bool.false_eq_true] at h
  | _ => simp only [chkS, Bool.false_eq_true] at h
end
end Pv
namespace Pv
open PySem PySem.Spec PyProof.Rows L2
section
variable {G : Glo} {n : Nat}
theorem PostS.seq {r : R PV} {f : PV → Mem → R (Fl × Env)} {W : WX} {H : Hp} {α : Al} {D : Ends} {S : It → Hp → Prop} {σ : L2.St} (h : PostS G W (Pv.bnd r f) H α D) (hf : ∀ v m, sq v m = .no → f v m = .no)
    (k : ∀ v m' x H1 α1, Stp H α H1 α1 → GoodJ G H1 α1 x v → MemR G H1 α1 m' → PostS G W (f v m') H1 α1 D → S x H1) : Post G (GoodJ G) (Pv.bnd r sq) H α S (wE W σ) := by
  cases r with
  | no => exact h
  | exc x m => exact fun C d H' α' st me hx => h C d σ H' α' st me hx
  | ok v m =>
    simp only [bnd_ok] at h ⊢
    cases e : sq v m with
    | no => rw [hf v m e] at h; exact h.elim
    | exc x m' => cases v <;> cases e
    | ok w m' =>
      have e1 : w = v ∧ m' = m := by cases v <;> first | (cases e; exact ⟨rfl, rfl⟩) | cases e
      obtain ⟨rfl, rfl⟩ := e1
      exact fun x H1 α1 st rx me => k _ _ x H1 α1 st rx me (PostS.base (r := f w m') h st)
def fbody (G : Glo) (n : Nat) (t : Tg) (b : S) : PV → Env → Mem → R (Fl × Env) := fun x ρ m => match asg t x ρ with
  | some ρ' => evS G.pr.con (run G.pr n) b ρ' m
  | none => .no
theorem forC_len {f : PV → Env → Mem → R (Fl × Env)} {k N r : Nat} {ρ : Env} {m : Mem} {W : WX} {H : Hp} {α : Al} {D : Ends} (q : PostS G W (forC f k N r ρ m) H α D) : ∃ l, m[k]? = some l ∧ l.length = N := by
  cases e : m[k]? with
  | none => cases r <;> (unfold forC at q; simp only [e] at q; exact q.elim)
  | some l =>
    refine ⟨l, rfl, ?_⟩
    by_cases h : l.length = N
    · exact h
    · cases r <;> (unfold forC at q; simp only [e, if_neg h] at q; exact q.elim)
theorem okS1_for {t : Tg} {s : E} {b : S} (hs : iOk true s = true → OkI G true n s) (hb : OkS G n b) : OkS1 G n (.for_ t s b) := by
  intro N sc st X W C h
  cases st with
  | For tg iter body orelse pos =>
    cases orelse with
    | cons _ _ => simp only [chkS, Bool.false_eq_true] at h
    | nil =>
      simp only [chkS, Bool.and_eq_true] at h
      obtain ⟨⟨⟨⟨h0, h1⟩, h2⟩, h3⟩, h4⟩ := h
      refine PS.weak (ps_for C.hp C.calm (hs h0 N sc iter tg X W C.toCG h1 h2) ((okG_both t C.toCG (fun x _ => C.fn x)).1 h3) (hb N sc body X W C h4) (folded_plain (chk_plain h2))) fun D σ H ⟨α, ρ, m, re, me, q⟩ => ⟨α, ρ, m, re, me, ?_⟩
      simp only [evS] at q
      refine PostS.seq q (fun v m e => by cases v <;> first | rfl | cases e) fun sv m1 J H1 α1 st gj me1 q1 => ?_
      rcases gj with ⟨l, hl, hz, Gd, Y, wk, hGd, hY⟩ | ⟨k, a, rfl, hk, rfl⟩
      rotate_left
      · clear q
        cases e0 : m1[k]? with
        | none =>
          simp only [e0] at q1
          exact q1.elim
        | some l0 =>
          simp only [e0] at q1
          replace q1 : PostS G W (forC (fbody G n t b) k l0.length l0.length ρ m1) H1 α1 D := q1
          generalize l0.length = M at q1
          refine for_it (walk_cell (K := G.K) (a := a) (n := M)) (fun i σ2 H2 => ∃ α2 ρ2 m2, EnvR G H2 α2 ρ2 σ2 ∧ MemR G H2 α2 m2 ∧ Stp H1 α1 H2 α2 ∧ PostS G W (forC (fbody G n t b) k M (M - i) ρ2 m2) H1 α1 D)
            ⟨α1, ρ, m1, re.ext st.ext st.le, me1, Stp.refl, q1⟩ (fun i σ2 H2 _ ⟨α2, ρ2, m2, _, me2, st2, q2⟩ => by
              obtain ⟨l2, e2, e3⟩ := forC_len q2
              obtain ⟨xs, h1, h2, _⟩ := me2.at_ k a l2 (st2.le _ _ hk) e2
              exact ⟨xs, h1, by rw [Paired.length h2]; exact e3⟩) ?_ ?_
          · rintro i x σ2 H2 H3 hi ⟨α2, ρ2, m2, re2, me2, st2, q2⟩ ⟨rfl, xs, hx, hxi⟩
            obtain ⟨l2, e2, e3⟩ := forC_len q2
            obtain ⟨xs', h1, h2, _⟩ := me2.at_ k a l2 (st2.le _ _ hk) e2
            rw [hx] at h1
            cases h1
            have hr : M - i = (M - (i + 1)) + 1 := by omega
            have hr2 : M - (M - (i + 1) + 1) = i := by omega
            rw [hr] at q2
            unfold forC at q2
            simp only [e2, if_pos e3, hr2] at q2
            have hil : i < l2.length := by omega
            obtain ⟨x', hx', rpx⟩ := Paired.get' h2 (List.getElem?_eq_getElem hil)
            rw [hxi] at hx'
            cases hx'
            rw [List.getElem?_eq_getElem hil] at q2
            generalize l2[i] = it at q2 rpx
            simp only [] at q2
            generalize hF : forC (fbody G n t b) k M (M - (i + 1)) = F at q2 ⊢
            unfold fbody at q2
            cases ea : asg t it ρ2 with
            | none => rw [ea] at q2; exact q2.elim
            | some ρ' =>
              rw [ea] at q2
              refine ⟨α2, ρ2, it, ρ', re2, rpx, ea, fun σ3 re3 w3 => ⟨α2, ρ', m2, re3, me2, ?_⟩⟩
              simp only [] at q2
              generalize evS G.pr.con (run G.pr n) b ρ' m2 = r1 at q2 ⊢
              cases r1 with
              | no => exact q2.elim
              | exc xn mx => exact fun C d σ' H' α' st' me' hx => q2 C d σ' H' α' (st2.trans st') me' hx
              | ok v m4 =>
                obtain ⟨f, ρ4⟩ := v
                simp only [bnd_ok] at q2
                intro H4 α4 st4 me4
                have st14 := st2.trans st4
                cases f with
                | next => exact fun σ4 re4 => ⟨α4, ρ4, m4, re4, me4, st14, q2⟩
                | cnt => exact fun σ4 re4 => ⟨α4, ρ4, m4, re4, me4, st14, q2⟩
                | brk => exact fun σ4 re4 => q2 H4 α4 st14 me4 σ4 re4
                | ret v => exact fun x rx => q2 H4 α4 st14 me4 x rx
          · rintro σ2 H2 ⟨α2, ρ2, m2, re2, me2, st2, q2⟩
            obtain ⟨l2, e2, e3⟩ := forC_len q2
            rw [Nat.sub_self] at q2
            unfold forC at q2
            simp only [e2, if_pos e3] at q2
            exact q2 H2 α2 st2 me2 σ2 re2
      · have q1 : PostS G W (forL (fbody G n t b) l ρ m1) H1 α1 D := by
          rcases hl with rfl | rfl
          · exact q1
          · exact q1
        clear q
        refine for_it wk (fun i σ2 H2 => ∃ α2 ρ2 m2, EnvR G H2 α2 ρ2 σ2 ∧ MemR G H2 α2 m2 ∧ Stp H1 α1 H2 α2 ∧ PostS G W (forL (fbody G n t b) (l.drop i) ρ2 m2) H1 α1 D)
          ⟨α1, ρ, m1, re.ext st.ext st.le, me1, Stp.refl, q1⟩ (fun i σ2 H2 _ ⟨α2, ρ2, m2, _, _, st2, _⟩ => hGd H2 st2.ext) ?_ ?_
        · rintro i x σ2 H2 H3 hi ⟨α2, ρ2, m2, re2, me2, st2, q2⟩ y
          obtain ⟨hH, it, hit, hf⟩ := hY i H2 x H3 st2.ext hi y
          have st3 : Stp H2 α2 H3 α2 := by
            rcases hH with rfl | ⟨T, o, hT, rfl⟩
            · exact Stp.refl
            · exact Stp.laid hT
          have me3 : MemR G H3 α2 m2 := by
            rcases hH with rfl | ⟨T, o, hT, rfl⟩
            · exact me2
            · exact me2.upd hT
          have hdr : l.drop i = it :: l.drop (i + 1) := by
            obtain ⟨h1, h2⟩ := List.getElem?_eq_some_iff.mp hit
            rw [List.drop_eq_getElem_cons h1, h2]
          rw [hdr] at q2
          unfold forL at q2
          generalize hF : forL (fbody G n t b) (l.drop (i + 1)) = F at q2 ⊢
          unfold fbody at q2
          cases ea : asg t it ρ2 with
          | none => rw [ea] at q2; exact q2.elim
          | some ρ' =>
            rw [ea] at q2
            have st13 := st2.trans st3
            refine ⟨α2, ρ2, it, ρ', re2.ext st3.ext st3.le, .d hf, ea, fun σ3 re3 w3 => ⟨α2, ρ', m2, re3, me3, ?_⟩⟩
            simp only [] at q2
            generalize evS G.pr.con (run G.pr n) b ρ' m2 = r1 at q2 ⊢
            cases r1 with
            | no => exact q2.elim
            | exc xn mx => exact fun C d σ' H' α' st' me' hx => q2 C d σ' H' α' (st13.trans st') me' hx
            | ok v m4 =>
              obtain ⟨f, ρ4⟩ := v
              simp only [bnd_ok] at q2
              intro H4 α4 st4 me4
              have st14 := st13.trans st4
              cases f with
              | next => exact fun σ4 re4 => ⟨α4, ρ4, m4, re4, me4, st14, q2⟩
              | cnt => exact fun σ4 re4 => ⟨α4, ρ4, m4, re4, me4, st14, q2⟩
              | brk => exact fun σ4 re4 => q2 H4 α4 st14 me4 σ4 re4
              | ret v => exact fun x rx => q2 H4 α4 st14 me4 x rx
        · rintro σ2 H2 ⟨α2, ρ2, m2, re2, me2, st2, q2⟩
          rw [List.drop_length] at q2
          exact q2 H2 α2 st2 me2 σ2 re2
  | _ => simp only [chkS, Bool.false_eq_true] at h
theorem okS1_whl {c : E} {b : S} (hc : vOk true c = true → OkT G true n c) (hb : OkS G n b) : OkS1 G n (.whl c b) := by
  intro N sc st X W C h
  cases st with
  | While t body orelse pos =>
    cases orelse with
    | cons _ _ => simp only [chkS, Bool.false_eq_true] at h
    | nil =>
      simp only [chkS, Bool.and_eq_true] at h
      obtain ⟨⟨h0, h1⟩, h2⟩ := h
      refine PS.weak (ps_while C.hp (hc h0 N sc t X W C.toCG h1) (hb N sc body X W C h2)) fun D σ H ⟨α, ρ, m, re, me, q⟩ => ?_
      simp only [evS] at q
      refine ⟨fun k σ H => ∃ α ρ m, EnvR G H α ρ σ ∧ MemR G H α m ∧ PostS G W (whileL (fun ρ m => bnd (evE G.pr.con (run G.pr n) c ρ m) fun v m => tstB m v) (fun ρ m => evS G.pr.con (run G.pr n) b ρ m) k ρ m) H α D, ⟨turns, α, ρ, m, re, me, q⟩, ?_⟩
      rintro k σ1 H1 ⟨α1, ρ1, m1, re1, me1, q1⟩
      cases k with
      | zero => exact q1.elim
      | succ k =>
        unfold whileL at q1
        generalize hF : whileL (fun ρ m => bnd (evE G.pr.con (run G.pr n) c ρ m) fun v m => tstB m v) (fun ρ m => evS G.pr.con (run G.pr n) b ρ m) k = F at q1
        refine ⟨α1, ρ1, m1, re1, me1, PostS.bnd q1 fun bv m2 b' H2 α2 st2 eb me2 q2 => ?_⟩
        subst eb
        cases b' with
        | false =>
          simp only [Bool.false_eq_true, if_false] at q2 ⊢
          exact PostS.next q2 (re1.ext st2.ext st2.le) me2
        | true =>
          simp only [if_true] at q2 ⊢
          refine ⟨fun σ H => ∃ α ρ m, EnvR G H α ρ σ ∧ MemR G H α m ∧ PostS G W (F ρ m) H α D, fun σ' H' hh => ⟨k, Nat.lt_succ_self k, by rw [hF]; exact hh⟩, α2, ρ1, m2, re1.ext st2.ext st2.le, me2, ?_⟩
          generalize evS G.pr.con (run G.pr n) b ρ1 m2 = r1 at q2 ⊢
          cases r1 with
          | no => exact q2.elim
          | exc xn mx => exact q2
          | ok v m4 =>
            obtain ⟨f, ρ4⟩ := v
            simp only [bnd_ok] at q2
            intro H4 α4 st4 me4
            cases f with
            | next => exact fun σ4 re4 => ⟨α4, ρ4, m4, re4, me4, PostS.base q2 st4⟩
            | cnt => exact fun σ4 re4 => ⟨α4, ρ4, m4, re4, me4, PostS.base q2 st4⟩
            | brk => exact fun σ4 re4 => q2 H4 α4 st4 me4 σ4 re4
            | ret v => exact fun x rx => q2 H4 α4 st4 me4 x rx
  | _ => simp only [chkS, Bool.false_eq_true] at h
theorem assign_sub {o i : Expr} {pos : Pos} {env : PySem.Env} (h : plain i = true) (v : Value) : assign (.Subscript o i pos) env v = (do
      let ov ← holding [v] (eval o env)
      let iv ← holding [v, ov] (eval i env)
      standAt pos
      holding [v, ov, iv] (setItem ov iv v)
      release [v, ov, iv] []) := by
  cases i <;> first | rfl | (cases h; done)
theorem okS1_setix {o i e : E} (ho : vOk true o = true → OkE G true n o) (hi : vOk true i = true → OkE G true n i) (he : vOk true e = true → OkE G true n e) : OkS1 G n (.setix o i e) := by
  intro N sc st X W C h
  cases st with
  | Assign ts z pos =>
    rcases ts with _ | ⟨tg, _ | ⟨t2, ts⟩⟩
    · simp only [chkS, Bool.false_eq_true] at h
    · cases tg <;> simp only [chkS, Bool.false_eq_true, Bool.and_eq_true] at h
      obtain ⟨⟨⟨⟨⟨⟨h1, h2⟩, h3⟩, h4⟩, h5⟩, h6⟩, h7⟩ := h
      have hp := chk_plain h5
      refine PS.weak (ps_asg (he h3 N sc _ X W C.toCG h6) (pg_sub (ho h1 N sc _ X W C.toCG h4) (hi h2 N sc _ X W C.toCG h5) set_list ?_) (noComp_sole h7) rfl rfl) fun D σ H ⟨α, ρ, m, re, me, q⟩ => ⟨α, ρ, m, re, me, ?_⟩
      · exact assign_sub hp
      · simp only [evS] at q
        refine PostS.bnd q fun v m1 x H1 α1 st1 rv me1 q1 => ⟨α1, ρ, m1, re.ext st1.ext st1.le, me1, PostS.bnd q1 fun w m2 y H2 α2 st2 rw' me2 q2 => ⟨α2, ρ, m2, (re.ext st1.ext st1.le).ext st2.ext st2.le, me2, PostS.bnd q2 fun u m3 z H3 α3 st3 ru me3 q3 => ?_⟩⟩
        have rv3 := (rv.ext st2.ext st2.le).ext st3.ext st3.le
        have rw3 := rw'.ext st3.ext st3.le
        have re3 := ((re.ext st1.ext st1.le).ext st2.ext st2.le).ext st3.ext st3.le
        cases w with
        | cell k =>
          cases u with
          | int j =>
            have e1 := fz_int ru
            subst e1
            cases rw3 with
            | d f => cases f
            | cell hk =>
              cases e2 : m3[k]? with
              | none => simp only [e2] at q3; exact q3.elim
              | some l =>
                simp only [e2] at q3
                cases e3 : atI l.length j with
                | none => simp only [e3] at q3; exact q3.elim
                | some a =>
                  simp only [e3] at q3
                  obtain ⟨xs, hx, rx, hz⟩ := me3.at_ k _ l hk e2
                  have hix : L2.ixN xs.length j = some a := by rw [Paired.length rx]; exact e3
                  have st4 : Stp H3 α3 (L2.upd H3 _ (.lst (xs.set a x))) α3 := Stp.set hx (List.mem_of_getElem? hk)
                  exact ⟨_, xs, j, a, rfl, rfl, hx, hix, PostS.next (PostS.base q3 st4) (re3.ext st4.ext st4.le) (me3.set hk hx (Paired.set' rv3 a rx) (by rw [List.length_set]; exact hz))⟩
          | _ => exact q3.elim
        | _ => exact q3.elim
    · cases tg <;> simp only [chkS, Bool.false_eq_true] at h
  | _ => simp only [chkS, Bool.false_eq_true] at h
/-! ### assignments -/
def LKS (Q : L2.St → Hp → Prop) : L2.St → Hp → Prop := fun σ H => Q σ H ∨ ∃ p xs, H p = some (.lst xs) ∧ ∀ o, Q σ (L2.upd H p (.frz o (.lst xs)))
theorem PS.lk {X : Cx} {st : Stmt} {t : TS} (h : PS X st t) (hn : ∀ D D' σ H, t D σ H → D'.nx = D.nx → t D' σ H) : PS X st (fun D σ H => t { D with nx := LKS D.nx } σ H) := by
  refine ⟨fun pins s σ H D I q => thn (h.run pins s σ H _ I q) fun f s' hh => ?_⟩
  cases f with
  | next =>
    obtain ⟨σ', H', I', q | ⟨p, xs, hp, q⟩⟩ := hh
    · exact ⟨σ', H', I', q⟩
    · obtain ⟨o, I2⟩ := I'.lock hp trivial
      exact ⟨σ', _, I2, q o⟩
  | brk => exact hh
  | cont => exact hh
  | ret v => exact hh
theorem okS1_asgN {i : Nat} {e : E} (he : vOk true e = true → OkE G true n e) (hcomp : ∀ (mu : Bool) (own : List Nat) (t : Tg) (s c b : E), e = .comp mu own t s c b → (iOk true s = true → OkI G true n s) ∧ (vOk true c = true → OkT G true n c) ∧ (vOk true b = true → OkE G true n b)) : OkS1 G n (.asg (.v i) e) := by
  intro N sc st X W C h
  cases st with
  | Assign ts x pos =>
    rcases ts with _ | ⟨tg, _ | ⟨t2, ts⟩⟩
    · simp only [chkS, Bool.false_eq_true] at h
    · cases tg <;> simp only [chkS, Bool.false_eq_true, Bool.and_eq_true, decide_eq_true_eq] at h
      rename_i y py
      obtain ⟨⟨⟨h1, h2⟩, h3⟩, h4⟩ := h
      have hN : X.N.Nodup := by rw [C.nm]; exact C.nd
      have hNi : X.N[i]? = some y := by rw [C.nm]; exact h2
      have e1 : ∀ z, X.env.scope.names.lookup z = sc.names.lookup z := fun z => by rw [C.sc]
      have key : (∀ D σ H, tS G n W (.asg (.v i) e) D σ H → tAsg (tE G n W e) (gName i) D σ H) := fun D σ H ⟨α, ρ, m, re, me, q⟩ => by
        refine ⟨α, ρ, m, re, me, ?_⟩
        simp only [evS] at q
        exact PostS.bnd q fun v m1 x H1 α1 st rv me1 q1 => PostS.next q1 ((re.ext st.ext st.le).set rv i) me1
      by_cases hnc : noComp x = true
      · have hl : sc.names.lookup y = some .local ∨ sc.names.lookup y = some .cell := by
          cases x <;> first | (simpa [asgB] using h4) | (cases hnc; done)
        refine PS.weak (ps_set hN hNi ?_ (he h1 N sc _ X W C.toCG h3) (noComp_sw hnc) (.inl (C.fn y))) key
        rcases hl with hl | hl
        · exact .inl ((e1 y).trans hl)
        · exact .inr ((e1 y).trans hl)
      · have hpl := chk_plain h3
        cases x <;> try (first | (exact absurd rfl hnc) | (cases hpl; done))
        rename_i elt gens scope cpos
        simp only [asgB, Bool.or_eq_true, Bool.and_eq_true, decide_eq_true_eq, Bool.not_eq_true'] at h4
        rcases h4 with ⟨⟨k1, k2⟩, k3⟩ | k1
        · cases e <;> try (simp only [chkE, Bool.false_eq_true] at h3; done)
          · rename_i mu own t s c b
            rcases gens with _ | ⟨⟨ctg, iter, ifs, asy⟩, _ | ⟨g2, gs⟩⟩
            · simp only [chkE, Bool.false_eq_true] at h3
            · have h0 : asy = 0 := by
                unfold chkE at h3
                simp only [Bool.and_eq_true, decide_eq_true_eq] at h3
                exact h3.1.1.1.1.1.1.1
              subst h0
              obtain ⟨c1, c2, c3⟩ := hcomp mu own t s c b rfl
              simp only [vOk, Bool.and_eq_true] at h1
              obtain ⟨⟨v1, v2⟩, v3⟩ := h1
              obtain ⟨p1, p2, p3, p4, p5, p6, p7⟩ := comp_parts (c1 v1) (c2 v2) (c3 v3) C.toCG h3
              have hsw := sw_true (elt := elt) (gs := [⟨ctg, iter, ifs, 0⟩]) (scope := scope) (pos := cpos) (py := py) (y := y) (l := pos.line) (env := X.env) (by rw [C.sc]; exact C.kind) ((e1 y).trans k1) k2 k3
              refine PS.weak (PS.lk (ps_setLc C.calm hN hNi ((e1 y).trans k1) hsw p1 p2 p3 p4 p5 p6) ?_) fun D σ H hq => ?_
              · intro D D' σ H hh e2
                show tLc _ _ _ _ _ σ H (fun x H1 => D'.nx (σ.set i (some x)) H1)
                rw [e2]
                exact hh
              · have q2 := p7 σ H (fun x H1 => D.nx (σ.set i (some x)) H1) (key D σ H hq)
                have em : ∀ {Q Q' : VK}, (∀ x H, Q x H → Q' x H) → tLc (tI G n W s) (tG G t) (tT G n (fun _ _ _ _ => False) c) (tE G n (fun _ _ _ _ => False) b) ((ownOf N own).map (·.2)) σ H Q → tLc (tI G n W s) (tG G t) (tT G n (fun _ _ _ _ => False) c) (tE G n (fun _ _ _ _ => False) b) ((ownOf N own).map (·.2)) σ H Q' := by
                  rintro Q Q' hQ ⟨α, ρ, m, re, me, q⟩
                  refine ⟨α, ρ, m, re, me, q.mono fun J H1 hd D hD => ?_⟩
                  obtain ⟨W0, h0, h1⟩ := hd D hD
                  refine ⟨W0, h0, fun i m H hw => ?_⟩
                  rcases h1 i m H hw with ⟨a1, a2⟩ | a
                  · exact .inl ⟨a1, hQ _ _ a2⟩
                  · exact .inr a
                refine em (fun x H1 hx => ?_) q2
                rcases hx with hx | ⟨p, xs, rfl, hp, hx⟩
                · exact .inl hx
                · exact .inr ⟨p, xs, hp, hx⟩
            · simp only [chkE, Bool.false_eq_true] at h3
          · exact PS.weak (t := fun _ _ _ => False) ⟨fun _ _ _ _ _ _ h => h.elim⟩ fun D σ H ⟨α, ρ, m, re, me, q⟩ => q.elim
        · have hsw : swapsWith (.ListComp elt gens scope cpos) (some (.Name y py)) pos.line X.env = pure false := by
            have ky : X.env.kindOf y = some .cell := (e1 y).trans k1
            unfold swapsWith
            simp only [ky]
            show (pure _ : Sem Bool) = pure false
            congr 1
            simp
          exact PS.weak (ps_set hN hNi (.inr ((e1 y).trans k1)) (he h1 N sc _ X W C.toCG h3) hsw (.inl (C.fn y))) key
    · cases tg <;> simp only [chkS, Bool.false_eq_true] at h
  | _ => simp only [chkS, Bool.false_eq_true] at h
end
end Pv
namespace Pv
open PySem PySem.Spec PyProof.Rows L2
theorem star_no {e : Expr} (h : plain e = true) : (match e with | .Starred .. => true | _ => false) = false := by
  cases e <;> first | rfl | (cases h; done)
theorem star_any {es : List Expr} (h : ∀ e ∈ es, plain e = true) : (es.any fun | .Starred .. => true | _ => false) = false := by
  induction es with
  | nil => rfl
  | cons e es ih =>
    rw [List.any_cons, ih fun x hx => h x (by simp [hx])]
    have := star_no (h e (by simp))
    cases e <;> first | rfl | (cases this; done)
theorem few_names {env : PySem.Env} {sc : Scope} (hsc : env.scope = sc) {line : Nat} : ∀ {ts : List Expr}, ts.any (notLoc sc) = true → (ts.filterMap fun
    | .Name id pos => if env.kindOf id == some .local && pos.line == line then some id else none
    | _ => none).length < ts.length
  | [], h => by cases h
  | t :: ts, h => by
    have le : ∀ us : List Expr, (us.filterMap fun
      | .Name id pos => if env.kindOf id == some .local && pos.line == line then some id else none
      | _ => none).length ≤ us.length := fun us => List.length_filterMap_le _ _
    rw [List.any_cons, Bool.or_eq_true] at h
    rcases h with h | h
    · have e : (match t with
        | .Name id pos => if env.kindOf id == some .local && pos.line == line then some id else none
        | _ => none) = none := by
        cases t <;> first | rfl | skip
        rename_i id pos
        have h' : (!decide (sc.names.lookup id = some .local)) = true := h
        have k : (env.kindOf id == some .local) = false := by
          unfold Env.kindOf
          rw [hsc]
          simpa using h'
        simp [k]
      rw [List.filterMap_cons, e]
      exact Nat.lt_succ_of_le (le ts)
    · have ih := few_names (line := line) hsc h
      rw [List.filterMap_cons]
      split
      · exact Nat.lt_succ_of_lt ih
      · exact Nat.succ_lt_succ ih
theorem sw_none1 {ts es : List Expr} {k1 k2} {p1 p2 : Pos} {env : PySem.Env} (hp : ∀ e ∈ es, plain e = true) {sc : Scope} (hsc : env.scope = sc) (h : (!(ts.length == 2 || ts.length == 3) || es.length != ts.length || es.all (foldedForSure 8) || ts.any (notLoc sc)) = true) :
    swappedStores [.Tuple ts k1 p1] (.Tuple es k2 p2) env = pure none := by
  unfold swappedStores
  simp only [star_any hp]
  by_cases h1 : (!(ts.length == 2 || ts.length == 3) || es.length != ts.length || env.blockKind != .function) = true
  · rw [if_pos h1]
  · rw [if_neg h1]
    have h2 : es.all (foldedForSure 8) = true ∨ ts.any (notLoc sc) = true := by
      simp only [Bool.or_eq_true] at h h1
      rcases h with ((h | h) | h) | h
      · exact absurd (.inl (.inl h)) h1
      · exact absurd (.inl (.inr h)) h1
      · exact .inl h
      · exact .inr h
    rcases h2 with h2 | h2
    · simp only [h2]
      simp
    · have key := few_names (line := (ts.head?.map (·.pos.line)).getD 0) hsc h2
      split
      · rfl
      · rw [if_pos]
        rw [Bool.or_eq_true]
        exact .inl (bne_iff_ne.mpr (Nat.ne_of_lt key))
theorem sw_two {x y : Str} {px py p1 p2 : Pos} {a b : Expr} {k1 k2} {env : PySem.Env} (hk : env.scope.kind = .function) (hx : env.scope.names.lookup x = some .local) (hy : env.scope.names.lookup y = some .local) (hxy : x ≠ y) (hl : py.line = px.line)
    (hp : ∀ e ∈ [a, b], plain e = true) (h1 : ([a, b].all (foldedForSure 8)) = false) (h2 : ([a, b].all (constantsAlone 8)) = false) :
    swappedStores [.Tuple [.Name x px, .Name y py] k1 p1] (.Tuple [a, b] k2 p2) env = pure (some [x, y]) := by
  have hb : env.blockKind = .function := by unfold Env.blockKind; rw [hk]; rfl
  have kx : env.kindOf x = some .local := hx
  have ky : env.kindOf y = some .local := hy
  unfold swappedStores
  simp only [star_any hp, h1, h2, hb]
  have e1 : (y == x) = false := by simp [Ne.symm hxy]
  have e2 : (x == y) = false := by simp [hxy]
  simp [kx, ky, hl, Expr.pos, e1, e2, List.eraseDups_cons]
  intro h
  exfalso
  rcases h with h | h
  · have := hp a (by simp)
    cases a <;> first | (cases h; done) | (cases this; done)
  · have := hp b (by simp)
    cases b <;> first | (cases h; done) | (cases this; done)
theorem sw_three {x y z : Str} {px py pz p1 p2 : Pos} {a b c : Expr} {k1 k2} {env : PySem.Env} (hk : env.scope.kind = .function) (hx : env.scope.names.lookup x = some .local) (hy : env.scope.names.lookup y = some .local) (hz : env.scope.names.lookup z = some .local) (hxy : x ≠ y) (hxz : x ≠ z) (hyz : y ≠ z) (hl : py.line = px.line) (hl2 : pz.line = px.line)
    (hp : ∀ e ∈ [a, b, c], plain e = true) (h1 : ([a, b, c].all (foldedForSure 8)) = false) (h2 : ([a, b, c].all (constantsAlone 8)) = false) :
    swappedStores [.Tuple [.Name x px, .Name y py, .Name z pz] k1 p1] (.Tuple [a, b, c] k2 p2) env = pure (some [x, y, z]) := by
  have hb : env.blockKind = .function := by unfold Env.blockKind; rw [hk]; rfl
  have kx : env.kindOf x = some .local := hx
  have ky : env.kindOf y = some .local := hy
  have kz : env.kindOf z = some .local := hz
  unfold swappedStores
  simp only [star_any hp, h1, h2, hb]
  have e1 : (y == x) = false := by simp [Ne.symm hxy]
  have e2 : (z == x) = false := by simp [Ne.symm hxz]
  have e3 : (z == y) = false := by simp [Ne.symm hyz]
  simp [kx, ky, kz, hl, hl2, Expr.pos, e1, e2, e3, List.eraseDups_cons]
  intro h
  exfalso
  rcases h with h | h | h
  · have := hp a (by simp)
    cases a <;> first | (cases h; done) | (cases this; done)
  · have := hp b (by simp)
    cases b <;> first | (cases h; done) | (cases this; done)
  · have := hp c (by simp)
    cases c <;> first | (cases h; done) | (cases this; done)
section
variable {G : Glo} {n : Nat}
theorem asg_t {T : Tg} {v : PV} {ρ ρ' : Env} (h : asg (.t T) v ρ = some ρ') : ∃ l, v = .tup l ∧ asg T (.tup l) ρ = some ρ' := by
  cases v with
  | tup l => exact ⟨l, rfl, h⟩
  | _ => cases h
theorem asg_two {i j : Nat} {v : PV} {ρ ρ' : Env} (h : asg (.t (.cons (.v i) (.cons (.v j) .nil))) v ρ = some ρ') : ∃ a b, v = .tup [a, b] ∧ ρ' = (ρ.set i (some a)).set j (some b) := by
  obtain ⟨l, rfl, h⟩ := asg_t h
  rcases l with _ | ⟨a, _ | ⟨b, _ | ⟨c, l⟩⟩⟩
  · cases h
  · cases h
  · cases h; exact ⟨a, b, rfl, rfl⟩
  · cases h
theorem asg_three {i j k : Nat} {v : PV} {ρ ρ' : Env} (h : asg (.t (.cons (.v i) (.cons (.v j) (.cons (.v k) .nil)))) v ρ = some ρ') : ∃ a b c, v = .tup [a, b, c] ∧ ρ' = ((ρ.set i (some a)).set j (some b)).set k (some c) := by
  obtain ⟨l, rfl, h⟩ := asg_t h
  rcases l with _ | ⟨a, _ | ⟨b, _ | ⟨c, _ | ⟨d, l⟩⟩⟩⟩
  · cases h
  · cases h
  · cases h
  · cases h; exact ⟨a, b, c, rfl, rfl⟩
  · cases h
theorem okS1_asgT {l : Tg} {e : E} (he : vOk true e = true → OkE G true n e) : OkS1 G n (.asg (.t l) e) := by
  intro N sc st X W C h
  cases st with
  | Assign ts x pos =>
    rcases ts with _ | ⟨tg, _ | ⟨t2, ts⟩⟩
    · simp only [chkS, Bool.false_eq_true] at h
    · cases tg <;> simp only [chkS, Bool.false_eq_true, Bool.and_eq_true] at h
      obtain ⟨⟨⟨⟨h1, h2⟩, h3⟩, h4⟩, h5⟩ := h
      refine PS.weak (ps_asg (he h1 N sc _ X W C.toCG h3) ((okG_both (.t l) C.toCG (fun x _ => C.fn x)).1 (e := .Tuple _ _ _) h2) (noComp_sole h5) (by cases x <;> first | rfl | (cases h4; done)) rfl) fun D σ H ⟨α, ρ, m, re, me, q⟩ => ⟨α, ρ, m, re, me, ?_⟩
      simp only [evS] at q
      refine PostS.bnd q fun v m1 x H1 α1 st rv me1 q1 => ?_
      cases ea : asg (.t l) v ρ with
      | none => rw [ea] at q1; exact q1.elim
      | some ρ' =>
        rw [ea] at q1
        exact ⟨α1, ρ, v, ρ', re.ext st.ext st.le, rv, ea, fun σ' re' _ => PostS.next q1 re' me1⟩
    · cases tg <;> simp only [chkS, Bool.false_eq_true] at h
  | _ => simp only [chkS, Bool.false_eq_true] at h
theorem okS1_asg {t : Tg} {e : E} (he : vOk true e = true → OkE G true n e) (hcomp : ∀ (mu : Bool) (own : List Nat) (t : Tg) (s c b : E), e = .comp mu own t s c b → (iOk true s = true → OkI G true n s) ∧ (vOk true c = true → OkT G true n c) ∧ (vOk true b = true → OkE G true n b)) : OkS1 G n (.asg t e) := by
  cases t with
  | v i => exact okS1_asgN he hcomp
  | t l => exact okS1_asgT he
  | nil => intro N sc st X W C h; cases st <;> simp only [chkS, Bool.false_eq_true] at h
  | cons a l => intro N sc st X W C h; cases st <;> simp only [chkS, Bool.false_eq_true] at h
theorem okS1_parG {tl : Tg} {l : E} (hl : OkL G true n l) {N : List Str} {sc : Scope} {ts es : List Expr} {k1 k2} {p1 p2 pos : Pos} {X : Cx} {W : WX} (C : CF G n N sc W X) (h1 : chkL G.nms N l sc es = true) (h2 : chkTs N (fun _ => true) sc tl ts = true) (h3 : ts.length ≤ 1000)
    (h4 : (!(ts.length == 2 || ts.length == 3) || es.length != ts.length || es.all (foldedForSure 8) || ts.any (notLoc sc)) = true) : PS X (.Assign [.Tuple ts k1 p1] (.Tuple es k2 p2) pos) (tS G n W (.par (.t tl) l)) := by
  obtain ⟨l1, l2⟩ := chkTs_len (env := X.env) h2
  refine PS.weak (ps_asg (pe_tup (hl N sc es X W C.toCG h1)) (pg_tup C.calm ((okG_both tl C.toCG (fun x _ => C.fn x)).2 h2) l1 l2) rfl (sw_none1 (chkL_plain h1) C.sc h4) rfl) fun D σ H ⟨α, ρ, m, re, me, q⟩ => ⟨α, ρ, m, re, me, ?_⟩
  simp only [evS] at q
  refine PostS.bnd q fun v m1 xs H1 α1 st rv me1 q1 => ?_
  cases ea : asg (.t tl) v ρ with
  | none => rw [ea] at q1; exact q1.elim
  | some ρ' =>
    rw [ea] at q1
    obtain ⟨vs, rfl, ea2⟩ := asg_t ea
    have hlen : xs.length = ts.length := by rw [Paired.length rv]; exact chkTs_vals h2 ea2
    refine ⟨by rw [hlen]; exact small_size h3, fun p hp => ⟨p, xs, rfl, SqT.of upd_same, hlen, α1, ρ, vs, ρ', (re.ext st.ext st.le).ext (Ext.new hp) Le.refl, rv.ext (Ext.new hp) Le.refl, ea2, fun σ' re' _ => PostS.next (PostS.base q1 (Stp.laid hp)) re' (me1.upd hp)⟩⟩
theorem okS1_par {t : Tg} {l : E} (hl : vOk true l = true → OkL G true n l) : OkS1 G n (.par t l) := by
  intro N sc st X W C h
  cases st with
  | Assign ts x pos =>
    rcases ts with _ | ⟨tg, _ | ⟨t2, ts⟩⟩
    · simp only [chkS, Bool.false_eq_true] at h
    · cases tg <;> try (simp only [chkS, Bool.false_eq_true] at h; done)
      rename_i ts k1 p1
      cases x <;> simp only [chkS, Bool.false_eq_true, Bool.and_eq_true] at h
      rename_i es k2 p2
      obtain ⟨⟨h1, h2⟩, h3⟩ := h
      have hN : X.N.Nodup := by rw [C.nm]; exact C.nd
      have e1 : ∀ z, X.env.scope.names.lookup z = sc.names.lookup z := fun z => by rw [C.sc]
      unfold parB at h3
      rw [Bool.or_eq_true] at h3
      rcases h3 with h3 | h3
      rotate_left
      · unfold parG at h3
        split at h3
        · simp only [Bool.and_eq_true, decide_eq_true_eq] at h3
          exact okS1_parG (hl h1) C h2 h3.1.1 h3.1.2 h3.2
        · cases h3
      unfold parA at h3
      split at h3
      · rename_i i j x px y py
        simp only [Bool.and_eq_true, decide_eq_true_eq, Bool.not_eq_true'] at h3
        obtain ⟨⟨⟨⟨⟨⟨⟨⟨⟨a1, a2⟩, a3⟩, a4⟩, a5⟩, a6⟩, a7⟩, a8⟩, a9⟩, a10⟩ := h3
        rcases es with _ | ⟨ea, _ | ⟨eb, _ | ⟨ec, es⟩⟩⟩ <;> try (cases a8; done)
        · refine PS.weak (ps_par C.calm hN (by rw [C.nm]; exact a1) (by rw [C.nm]; exact a2) a5 ((e1 x).trans a3) ((e1 y).trans a4) (hl h1 N sc _ X W C.toCG h2) (sw_two (by rw [C.sc]; exact C.kind) ((e1 x).trans a3) ((e1 y).trans a4) a6 a7 (chkL_plain h2) a9 a10) rfl) fun D σ H ⟨α, ρ, m, re, me, q⟩ => ⟨α, ρ, m, re, me, ?_⟩
          simp only [evS] at q
          refine PostS.bnd q fun v m1 xs H1 α1 st rv me1 q1 => ?_
          cases ev : asg (.t (.cons (.v i) (.cons (.v j) .nil))) v ρ with
          | none => rw [ev] at q1; exact q1.elim
          | some ρ' =>
            rw [ev] at q1
            obtain ⟨va, vb, rfl, rfl⟩ := asg_two ev
            cases rv with
            | cons r1 r2 =>
              cases r2 with
              | cons r2 r3 =>
                cases r3
                exact ⟨_, _, rfl, PostS.next q1 (((re.ext st.ext st.le).set r1 i).set r2 j) me1⟩
      · rename_i i j k x px y py z pz
        simp only [Bool.and_eq_true, decide_eq_true_eq, Bool.not_eq_true'] at h3
        obtain ⟨⟨⟨⟨⟨⟨⟨⟨⟨⟨⟨⟨⟨⟨⟨⟨a1, a2⟩, a3⟩, b1⟩, b2⟩, b3⟩, c1⟩, c2⟩, c3⟩, d1⟩, d2⟩, d3⟩, l1⟩, l2⟩, a8⟩, a9⟩, a10⟩ := h3
        rcases es with _ | ⟨ea, _ | ⟨eb, _ | ⟨ec, _ | ⟨ed, es⟩⟩⟩⟩ <;> try (cases a8; done)
        · refine PS.weak (ps_par3 C.calm hN (by rw [C.nm]; exact a1) (by rw [C.nm]; exact a2) (by rw [C.nm]; exact a3) c1 c2 c3 ((e1 x).trans b1) ((e1 y).trans b2) ((e1 z).trans b3) (hl h1 N sc _ X W C.toCG h2) (sw_three (by rw [C.sc]; exact C.kind) ((e1 x).trans b1) ((e1 y).trans b2) ((e1 z).trans b3) d1 d2 d3 l1 l2 (chkL_plain h2) a9 a10) rfl) fun D σ H ⟨α, ρ, m, re, me, q⟩ => ⟨α, ρ, m, re, me, ?_⟩
          simp only [evS] at q
          refine PostS.bnd q fun v m1 xs H1 α1 st rv me1 q1 => ?_
          cases ev : asg (.t (.cons (.v i) (.cons (.v j) (.cons (.v k) .nil)))) v ρ with
          | none => rw [ev] at q1; exact q1.elim
          | some ρ' =>
            rw [ev] at q1
            obtain ⟨va, vb, vc, rfl, rfl⟩ := asg_three ev
            cases rv with
            | cons r1 r2 =>
              cases r2 with
              | cons r2 r3 =>
                cases r3 with
                | cons r3 r4 =>
                  cases r4
                  exact ⟨_, _, _, rfl, PostS.next q1 ((((re.ext st.ext st.le).set r1 i).set r2 j).set r3 k) me1⟩
      · cases h3
    · cases tg <;> simp only [chkS, Bool.false_eq_true] at h
  | _ => simp only [chkS, Bool.false_eq_true] at h
/-! ### all statements -/
theorem chkS_one {nm : Nm} {N : List Str} {sc : Scope} {sts : List Stmt} : ∀ c : S, isSeq c = false → c ≠ .skip → chkS nm N c sc sts = true → ∃ st, sts = [st] := by
  intro c h1 h2 h
  rcases sts with _ | ⟨st, _ | ⟨s2, r⟩⟩
  · cases c <;> first | (exact absurd rfl h2) | (cases h1; done) | (simp [chkS] at h; done) | (rename_i t _; cases t <;> simp [chkS] at h; done)
  · exact ⟨st, rfl⟩
  · cases c <;> first | (exact absurd rfl h2) | (cases h1; done) | (simp [chkS] at h; done) | (rename_i t _; cases t <;> simp [chkS] at h; done)
theorem okS_both {c : S} (h : OkS1 G n c) (h1 : isSeq c = false) (h2 : c ≠ .skip) : OkS G n c ∧ (isSeq c = false → OkS1 G n c) :=
  ⟨okS_one h fun N sc sts hk => chkS_one c h1 h2 hk, fun _ => h⟩
theorem okS_all (hG : GOk G) (hF : FnsOk G n) : ∀ c : S, OkS G n c ∧ (isSeq c = false → OkS1 G n c) := by
  have E1 : ∀ e : E, vOk true e = true → OkE G true n e := fun e h => ((ok_all hG hF e true).1 h).e
  have T1 : ∀ e : E, vOk true e = true → OkT G true n e := fun e h => ((ok_all hG hF e true).1 h).t
  have L1 : ∀ e : E, vOk true e = true → OkL G true n e := fun e h => ((ok_all hG hF e true).1 h).l
  have I1 : ∀ e : E, iOk true e = true → OkI G true n e := fun e h => (ok_all hG hF e true).2 h
  intro c
  induction c with
  | skip => exact ⟨okS_skip, fun _ => okS1_skip⟩
  | seq a b iha ihb =>
    refine ⟨fun N sc sts X W C h => ?_, fun h => by cases h⟩
    by_cases hs : isSeq a = true
    · exfalso
      cases sts with
      | nil => simp only [chkS, Bool.false_eq_true] at h
      | cons st rest => simp only [chkS, hs, Bool.not_true, Bool.false_and, Bool.false_eq_true] at h
    · exact okS_seq (iha.2 (by simpa using hs)) ihb.1 N sc sts X W C h
  | ex e => exact okS_both (okS1_ex (E1 e)) rfl (by simp)
  | ret e => exact okS_both (okS1_ret (E1 e)) rfl (by simp)
  | asg t e => exact okS_both (okS1_asg (E1 e) fun mu own t s c b _ => ⟨I1 s, T1 c, E1 b⟩) rfl (by simp)
  | par t l => exact okS_both (okS1_par (L1 l)) rfl (by simp)
  | setix o i e => exact okS_both (okS1_setix (E1 o) (E1 i) (E1 e)) rfl (by simp)
  | ite c a b iha ihb => exact okS_both (okS1_ite (T1 c) iha.1 ihb.1) rfl (by simp)
  | for_ t s b ihb => exact okS_both (okS1_for (I1 s) ihb.1) rfl (by simp)
  | whl c b ihb => exact okS_both (okS1_whl (T1 c) ihb.1) rfl (by simp)
  | brk => exact okS_both okS1_brk rfl (by simp)
  | cnt => exact okS_both okS1_cnt rfl (by simp)
  | raise c => exact okS_both (okS1_raise hG) rfl (by simp)
  | stop => exact okS_both okS1_stop rfl (by simp)
end
end Pv
namespace Pv
open PySem PySem.Spec PyProof.Rows L2
/-! ## Defs -/
structure Df where
  st : Stmt
  N : List Str
def stripD : List Stmt → List Stmt
  | .Expr (.Constant (.str _) _ _) _ :: r => r
  | l => l
def dfB (nm : Nm) (F : Fn) (d : Df) : Bool := match argsOf (defArgs d.st) with
  | some as => decide ((as.map (·.arg)).length = F.np) && decide (d.N.length = F.nl) && decide d.N.Nodup && decide (d.N.take (as.map (·.arg)).length = as.map (·.arg)) && decide (as.map (·.arg)).Nodup &&
    decide ((defScope d.st).kind = .function) && !(defScope d.st).isCoroutine && !(defScope d.st).isGenerator && (as.map (·.arg)).all (fun x => decide ((defScope d.st).names.lookup x = some .local) || decide ((defScope d.st).names.lookup x = some .cell)) &&
    (defScope d.st).names.all (fun y => decide (y.2 ≠ .free)) && chkS nm d.N F.body (defScope d.st) (stripD (defBody d.st))
  | none => false
structure HasDef (G : Glo) (i : Nat) (a : Addr) (F : Fn) (d : Df) (fd : FuncData) : Prop where
  f : G.pr.fns[i]? = some F
  fun_ : ∃ x qual, FunD G.K x qual (defArgs d.st) (defBody d.st) (defScope d.st) [] [] a fd ∧ (G.hx ≠ [] → ∀ c, fd.code = .ref c → ∃ P, LamX.TabB G.base G.mg c P ∧ (P, (qual ++ ".<locals>.") ++ "<lambda>") ∈ G.T ∧ ∀ p ∈ G.T, p.1 = P → p.2 = (qual ++ ".<locals>.") ++ "<lambda>")
  chk : dfB G.nms F d = true
section
variable {G : Glo} {n : Nat}
theorem HasDef.parts {i : Nat} {a : Addr} {F : Fn} {d : Df} {fd : FuncData} (h : HasDef G i a F d fd) : ∃ ps : List Str, (∃ as, argsOf (defArgs d.st) = some as ∧ ps = as.map (·.arg)) ∧ ps.length = F.np ∧ d.N.length = F.nl ∧ FnScope d.N ps (defScope d.st) ∧ chkS G.nms d.N F.body (defScope d.st) (stripD (defBody d.st)) = true ∧ Binds G.K fd ps [] ∧ PySem.W.keepIn G.K (.ref a) = true := by
  obtain ⟨x, qual, hf, _⟩ := h.fun_
  have hc := h.chk
  unfold dfB at hc
  cases e : argsOf (defArgs d.st) with
  | none => rw [e] at hc; cases hc
  | some as =>
    rw [e] at hc
    simp only [Bool.and_eq_true, decide_eq_true_eq, Bool.not_eq_true'] at hc
    obtain ⟨⟨⟨⟨⟨⟨⟨⟨⟨⟨h1, h2⟩, h3⟩, h4⟩, h5⟩, h6⟩, h7⟩, h8⟩, h9⟩, h10⟩, h11⟩ := hc
    refine ⟨as.map (·.arg), ⟨as, rfl, rfl⟩, h1, h2, ⟨h6, h7, h8, h3, h4, fun x hx => ?_, fun y hy => ?_⟩, h11, ?_, hf.kp⟩
    · have := List.all_eq_true.mp h9 x hx
      simpa using this
    · have := List.all_eq_true.mp h10 y hy
      simpa using this
    · rw [argsOf_eq e] at hf
      exact hf.bindsN fun kV doc pm an cdv ct us hl => bind_gen h5 hl
theorem env_start {H : Hp} {α : Al} {vs : List V} {l : List PV} (r : RpAll G H α vs l) (k : Nat) : EnvR G H α (l.map some ++ List.replicate k none) (vs.map some ++ List.replicate k none) := by
  refine ⟨by simp [Paired.length r], fun i v h => ?_⟩
  by_cases hi : i < l.length
  · rw [List.getElem?_append_left (by simpa using hi), List.getElem?_map] at h
    have hg : l[i]? = some v := by
      cases e : l[i]? with
      | none => rw [e] at h; cases h
      | some u => rw [e] at h; simpa using h
    obtain ⟨x, hx, rx⟩ := Paired.get' r hg
    exact ⟨x, by rw [List.getElem?_append_left (by rw [List.length_map, Paired.length r]; exact hi), List.getElem?_map, hx]; rfl, rx⟩
  · rw [List.getElem?_append_right (by simpa using hi), List.getElem?_replicate] at h
    split at h <;> cases h
theorem fns_zero (hd : ∀ (i : Nat) (a : Addr), G.fa[i]? = some a → ∃ F d fd, HasDef G i a F d fd) : FnsOk G 0 := by
  intro i a ha
  obtain ⟨F, d, fd, h⟩ := hd i a ha
  obtain ⟨ps, _, h1, h2, h3, h4, h5, h6⟩ := h.parts
  refine ⟨F, fd, ps, h.f, h1, ⟨fun vs H Q E q => by rw [h1]; exact q.1, fun A outer s H args us vs Q E hr he hb hv q => ?_⟩, h5, h6⟩
  obtain ⟨_, α, m, l, _, _, q⟩ := q
  exact q.elim
theorem PSs.lock {X : Cx} {e : List Stmt} {t : TS} (h : PSs X e t) : PSs X e (fun D σ H => t D σ H ∨ ∃ p xs, H p = some (.lst xs) ∧ ∀ o, t D σ (L2.upd H p (.frz o (.lst xs)))) :=
  ⟨fun pins s σ H D I q => by
    rcases q with q | ⟨p, xs, hp, q⟩
    · exact h.run pins s σ H D I q
    · obtain ⟨o, I2⟩ := I.lock hp trivial
      exact h.run pins s σ _ D I2 (q o)⟩
/-- the promise, told of a list that may be locked ahead -/
def spFL (G : Glo) (n : Nat) (i np : Nat) : Sp := fun vs H Q E => spF G n i np vs H Q E ∨ ∃ p xs, H p = some (.lst xs) ∧ ∀ o, spF G n i np vs (L2.upd H p (.frz o (.lst xs))) Q E
theorem def_okL (hG : GOk G) (hF : FnsOk G n) {i : Nat} {a : Addr} {F : Fn} {d : Df} {fd : FuncData} (h : HasDef G i a F d fd) {ps : List Str} (h1 : ps.length = F.np) (h2 : d.N.length = F.nl) (h3 : FnScope d.N ps (defScope d.st)) (h4 : chkS G.nms d.N F.body (defScope d.st) (stripD (defBody d.st)) = true) :
    FnOk G.P G.w G.K G.mg G.base (L2.CX G.P G.w) (3 * (n + 1) + 5) a fd ps (spFL G (n + 1) i F.np) := by
  obtain ⟨x, qual, hf, hT⟩ := h.fun_
  obtain ⟨oc, od, dV, kV, doc, pm, an, cdv, ct, osl, rfl, lk, hcd, _, _⟩ := hf.ex
  show FnOk G.P G.w G.K G.mg G.base (L2.CX G.P G.w) ((3 * n + 7) + 1) a _ ps (spFL G (n + 1) i F.np)
  have len : ∀ vs H Q E, spFL G (n + 1) i F.np vs H Q E → vs.length = ps.length := fun vs H Q E q => by
    rw [h1]
    rcases q with q | ⟨_, _, _, q⟩
    · exact q.1
    · exact (q { cls := .none, data := .fields #[] }).1
  refine fn_of lk hcd h3 len (fun A outer s H vs Q E hr q => ?_)
  have C : CF G n d.N (defScope d.st) (fun C d _ H => E C d H) (cxOf (L2.CX G.P G.w) G.P G.w G.K G.mg G.base d.N qual (defScope d.st) a cdv A outer s H E) :=
    ⟨⟨rfl, rfl, rfl, rfl, rfl, rfl, h3.nd, h3.kind, rfl, hr.mono (by omega), rfl, takes_of rfl rfl rfl rfl, passes_of rfl, fun _ => ⟨hr, fun hx => by
      obtain ⟨c, rfl⟩ := He.codeIn_ref hcd
      obtain ⟨P, t1, t2, t3⟩ := hT hx c rfl
      exact ⟨c, P, rfl, t1, t2, t3⟩⟩⟩, fun _ => rfl⟩
  have body := (okS_all hG hF F.body).1 d.N (defScope d.st) _ _ _ C h4
  have key : ∀ H, spF G (n + 1) i F.np vs H Q E → tS G n (fun C d _ H => E C d H) F.body { nx := fun _ H' => Q .non H', rt := Q } (L2.start d.N vs) H := fun H q => by
    obtain ⟨hl, α, m, l, ra, me, q⟩ := q
    have e1 : L2.start d.N vs = vs.map some ++ List.replicate (F.nl - F.np) none := by
      unfold L2.start
      rw [hl, h2]
    rw [e1]
    refine ⟨α, l.map some ++ List.replicate (F.nl - F.np) none, m, env_start ra _, me, ?_⟩
    unfold run at q
    rw [h.f] at q
    have hl2 : l.length = F.np := by rw [← Paired.length ra]; exact hl
    simp only [if_pos hl2] at q
    generalize evS G.pr.con (run G.pr n) F.body (l.map some ++ List.replicate (F.nl - F.np) none) m = r at q ⊢
    cases r with
    | no => exact q
    | exc xn m1 => exact fun C d σ' H' α' st me' hx => q C d H' α' st me' hx
    | ok v m1 =>
      obtain ⟨f, ρ⟩ := v
      intro H' α' st me'
      cases f with
      | next => exact fun σ' _ => q .non H' α' st (.d .non) me'
      | ret v => exact fun x rx => q x H' α' st rx me'
      | brk => exact q.elim
      | cnt => exact q.elim
  have fin : ∀ {b : List Stmt} {t : TS}, PSs (cxOf (L2.CX G.P G.w) G.P G.w G.K G.mg G.base d.N qual (defScope d.st) a cdv A outer s H E) b t → (∀ H, spF G (n + 1) i F.np vs H Q E → t { nx := fun _ H' => Q .non H', rt := Q } (L2.start d.N vs) H) →
      ∃ t, PSs (cxOf (L2.CX G.P G.w) G.P G.w G.K G.mg G.base d.N qual (defScope d.st) a cdv A outer s H E) b t ∧ t { nx := fun _ H' => Q .non H', rt := Q } (L2.start d.N vs) H := fun hb hk => by
    refine ⟨_, PSs.lock hb, ?_⟩
    rcases q with q | ⟨p, xs, hp, q⟩
    · exact .inl (hk H q)
    · exact .inr ⟨p, xs, hp, fun o => hk _ (q o)⟩
  unfold stripD at body
  split at body
  · rename_i e
    rw [e]
    exact fin (pss_cons ps_doc body) key
  · exact fin body key
theorem def_ok (hG : GOk G) (hF : FnsOk G n) {i : Nat} {a : Addr} {F : Fn} {d : Df} {fd : FuncData} (h : HasDef G i a F d fd) {ps : List Str} (h1 : ps.length = F.np) (h2 : d.N.length = F.nl) (h3 : FnScope d.N ps (defScope d.st)) (h4 : chkS G.nms d.N F.body (defScope d.st) (stripD (defBody d.st)) = true) :
    FnOk G.P G.w G.K G.mg G.base (L2.CX G.P G.w) (3 * (n + 1) + 5) a fd ps (spF G (n + 1) i F.np) :=
  let D := def_okL hG hF h h1 h2 h3 h4
  ⟨fun vs H Q E q => D.len vs H Q E (.inl q), fun A outer s H args us vs Q E hr he hb hv q => D.run A outer s H args us vs Q E hr he hb hv (.inl q)⟩
theorem fns_step (hG : GOk G) (hF : FnsOk G n) (hd : ∀ (i : Nat) (a : Addr), G.fa[i]? = some a → ∃ F d fd, HasDef G i a F d fd) : FnsOk G (n + 1) := by
  intro i a ha
  obtain ⟨F, d, fd, h⟩ := hd i a ha
  obtain ⟨ps, _, h1, h2, h3, h4, h5, h6⟩ := h.parts
  exact ⟨F, fd, ps, h.f, h1, def_ok hG hF h h1 h2 h3 h4, h5, h6⟩
theorem fns_all (hG : GOk G) (hd : ∀ (i : Nat) (a : Addr), G.fa[i]? = some a → ∃ F d fd, HasDef G i a F d fd) : ∀ n, FnsOk G n
  | 0 => fns_zero hd
  | n + 1 => fns_step hG (fns_all hG hd n) hd
end
end Pv
namespace Pv
open PySem PySem.Spec PyProof.Rows L2
/-! ## The head -/
/-! ### a part of the heap that has no list -/
def isLst : Obj → Bool
  | ⟨.type c, _, _, _⟩ => decide (c = "list")
  | _ => false
theorem isLst_of {o : Obj} (h : o.cls = .type "list") : isLst o = true := by
  obtain ⟨c, d, t, s⟩ := o
  cases h
  rfl
def frN (g : Addr → Option Obj) (as : List Addr) : PySem.W.Frag := (He.frG g as).filter fun q => !isLst q.2 && !He.emptyTab q.2
def NoL (K : PySem.W.Frag) : Prop := ∀ a o, K.lookup a = some o → isLst o = false
theorem frN_mem {g : Addr → Option Obj} {as : List Addr} {a : Addr} {o : Obj} (h : (frN g as).lookup a = some o) : g a = some o ∧ isLst o = false ∧ He.emptyTab o = false := by
  obtain ⟨h1, h2⟩ := List.mem_filter.mp (He.lookup_mem h)
  have h2 : (!isLst o && !He.emptyTab o) = true := h2
  rw [Bool.and_eq_true, Bool.not_eq_true', Bool.not_eq_true'] at h2
  exact ⟨He.frG_mem h1, h2.1, h2.2⟩
theorem frN_in {as : List Addr} {h : Heap} : (frN h.get? as).In h := fun _ _ e => (frN_mem e).1
theorem frN_no {g : Addr → Option Obj} {as : List Addr} : NoL (frN g as) := fun _ _ e => (frN_mem e).2.1
theorem frN_none {g : Addr → Option Obj} {as : List Addr} {a : Addr} {o : Obj} (h : g a = some o) (ht : He.emptyTab o = true) : (frN g as).lookup a = none := by
  cases e : (frN g as).lookup a with
  | none => rfl
  | some u =>
    obtain ⟨h1, _, h2⟩ := frN_mem e
    rw [h] at h1
    cases h1
    rw [ht] at h2
    cases h2
/-! ### constants -/
mutual
def conB (K : PySem.W.Frag) : PV → Value → Bool
  | .non, .none => true
  | .bl b, .bool c => b == c
  | .int i, .int j _ => decide (i = j)
  | .str s, .str x _ => decide (x = ⟨s.toArray⟩) && PyData.strOk ⟨s.toArray⟩ && decide (s.length ≤ 1000)
  | .tup l, .ref a => (match K.lookup a with
    | some ⟨.type c, none, .seq its _, _⟩ => decide (c = "tuple") && decide (its.size ≤ 1000) && conAll K l its.toList
    | _ => false)
  | _, _ => false
def conAll (K : PySem.W.Frag) : List PV → List Value → Bool
  | [], [] => true
  | v :: l, u :: us => conB K v u && conAll K l us
  | _, _ => false
end
mutual
theorem conB_ok {K : PySem.W.Frag} : ∀ {v : PV} {u : Value}, conB K v u = true → ∃ y, RelV y u ∧ ∀ H, Fz K H y v
  | .non, u, h => by
    cases u <;> first | (simp only [conB, Bool.false_eq_true] at h; done) | exact ⟨.non, rfl, fun _ => .non⟩
  | .bl b, u, h => by
    cases u <;> simp only [conB, Bool.false_eq_true] at h
    have e := beq_iff_eq.mp h
    subst e
    exact ⟨.bl b, rfl, fun _ => .bl b⟩
  | .int i, u, h => by
    cases u <;> simp only [conB, Bool.false_eq_true] at h
    have e := of_decide_eq_true h
    subst e
    exact ⟨.int i, ⟨_, rfl⟩, fun _ => .int i⟩
  | .str s, u, h => by
    cases u <;> simp only [conB, Bool.false_eq_true, Bool.and_eq_true, decide_eq_true_eq] at h
    obtain ⟨⟨h1, h2⟩, h3⟩ := h
    subst h1
    exact ⟨.str _, ⟨_, rfl⟩, fun _ => .str s h2 (small_size h3)⟩
  | .tup l, u, h => by
    cases u <;> simp only [conB, Bool.false_eq_true] at h
    rename_i a
    split at h
    · rename_i c its n sl e
      simp only [Bool.and_eq_true, decide_eq_true_eq] at h
      obtain ⟨⟨h1, h2⟩, h3⟩ := h
      subst h1
      obtain ⟨ys, r, f⟩ := conAll_ok h3
      have hl : ys.length ≤ sizeLine := by
        rw [r.length, Array.length_toList]; exact small_size h2
      exact ⟨.ref a, rfl, fun H => .tup (.inr ⟨_, its, n, e, rfl, rfl, small_size h2, r⟩) hl (f H)⟩
    · cases h
  | .lst l, u, h => by simp only [conB, Bool.false_eq_true] at h
  | .cell k, u, h => by simp only [conB, Bool.false_eq_true] at h
  | .fn k, u, h => by simp only [conB, Bool.false_eq_true] at h
theorem conAll_ok {K : PySem.W.Frag} : ∀ {l : List PV} {us : List Value}, conAll K l us = true → ∃ ys, Vals ys us ∧ ∀ H, FzAll K H ys l
  | [], us, h => by
    cases us with
    | nil => exact ⟨[], .nil, fun _ => .nil⟩
    | cons _ _ => simp only [conAll, Bool.false_eq_true] at h
  | v :: l, us, h => by
    cases us with
    | nil => simp only [conAll, Bool.false_eq_true] at h
    | cons u us =>
      simp only [conAll, Bool.and_eq_true] at h
      obtain ⟨y, r1, f1⟩ := conB_ok h.1
      obtain ⟨ys, r2, f2⟩ := conAll_ok h.2
      exact ⟨y :: ys, .cons r1 r2, fun H => .cons (f1 H) (f2 H)⟩
end
theorem conB_tup {K : PySem.W.Frag} {l : List PV} {u : Value} (h : conB K (.tup l) u = true) : ∃ a o, u = .ref a ∧ K.lookup a = some o ∧ o.cls = .type "tuple" ∧ o.dict = none ∧ ∃ xs, ∀ H, SqT K H a xs ∧ FzAll K H xs l := by
  cases u <;> simp only [conB, Bool.false_eq_true] at h
  rename_i a
  split at h
  · rename_i c its n sl e
    simp only [Bool.and_eq_true, decide_eq_true_eq] at h
    obtain ⟨⟨h1, h2⟩, h3⟩ := h
    subst h1
    obtain ⟨ys, r, f⟩ := conAll_ok h3
    exact ⟨a, _, rfl, e, rfl, rfl, ys, fun H => ⟨.inr ⟨_, its, n, e, rfl, rfl, small_size h2, r⟩, f H⟩⟩
  · cases h
def conF (K : PySem.W.Frag) (q : Str × PV) : Bool := match PySem.W.nsIn K mainGlobals q.1 with
  | some (some u) => conB K q.2 u
  | _ => false
/-! ### a text -/
structure Txt where
  pr : Prg
  ds : List Df
  fx : List Str
  cx : List Str
  kx : List Str
  bx : List Str
  sub : List (Nat × Nat) := []
  hs : List (Hl × Stmt) := []
def Txt.nms (T : Txt) : Nm := ⟨T.fx, T.cx, T.kx, T.bx, T.hs.map (·.1)⟩
def Txt.fa (T : Txt) : List He.Fa := T.fx.map He.Fa.glo ++ (T.bx.map He.Fa.free ++ (T.kx.map He.Fa.glo ++ (T.kx.map He.Fa.exc ++ T.hs.map fun q => He.Fa.glo q.1.x)))
def dfD (x : Str) (d : Df) : He.DefD := ⟨(x, none), x, x, defArgs d.st, defBody d.st, defScope d.st, [], []⟩
def Txt.fn (T : Txt) : List He.DefD := List.zipWith dfD T.fx T.ds ++ T.hs.map fun q => dfD q.1.x ⟨q.2, []⟩
def Txt.cs (T : Txt) : List (Str × PV) := T.cx.zip T.pr.con
/-! ### the Hook -/
/-- the defs whose tables are asked for, with their code objects' tables -/
def Txt.tf (T : Txt) : List He.Defn := if T.hs.isEmpty then [] else T.fx.map fun x => (x, none)
def tbl (K : PySem.W.Frag) (p : He.Defn) : Addr × Str := ((He.cT K p).2, (p.1 ++ ".<locals>.") ++ "<lambda>")
def tabU (l : List (Addr × Str)) : Bool := l.all fun p => l.all fun q => !(p.1 == q.1) || (p.2 == q.2)
def exmB (K : PySem.W.Frag) (kx : List Str) (sub : List (Nat × Nat)) : Bool := (List.range kx.length).all fun i => (List.range kx.length).all fun j =>
  decide (PySem.W.exmOne K (.ref (He.ga K (kx.getD i Str.empty))) (.ref (He.ga K (kx.getD j Str.empty))) = some (sub.contains (i, j)))
abbrev AlC : Type := He.AlD × Bool
def obsC (T : Txt) (g : Addr → Option Obj) (K : PySem.W.Frag) : AlC := (He.obsD T.fa T.fn K, T.cs.all (conF K) && ((T.hs.isEmpty || exmB K T.kx T.sub) && (tabU (T.tf.map (tbl K)) && He.tabsB g T.tf K)))
def obsCG (n : Nat) (T : Txt) (g : Addr → Option Obj) : AlC := obsC T g (frN g (He.asD g n))
structure SaysC (T : Txt) (h : Heap) (K : PySem.W.Frag) : Prop where
  d : He.SaysD T.fa T.fn K
  cons : T.cs.all (conF K) = true
  ex : (T.hs.isEmpty || exmB K T.kx T.sub) = true
  u : tabU (T.tf.map (tbl K)) = true
  hd : ∀ p ∈ T.tf, PySem.W.codeHdIn K (He.cT K p).1 (He.cT K p).2 = true
  out : ∀ p ∈ T.tf, K.lookup (He.cT K p).2 = none
  empty : ∀ p ∈ T.tf, h.get? (He.cT K p).2 = some { cls := .none, data := .fields #[] }
theorem saysC_of {n : Nat} {T : Txt} {h : Heap} (e : obsCG n T h.get? = (He.valD T.fn, true)) : SaysC T h (frN h.get? (He.asD h.get? n)) := by
  have e1 : He.obsD T.fa T.fn (frN h.get? (He.asD h.get? n)) = He.valD T.fn := congrArg (fun z : AlC => z.1) e
  have e2 := congrArg (fun z : AlC => z.2) e
  unfold obsCG obsC at e2
  simp only [Bool.and_eq_true] at e2
  obtain ⟨h1, h2, h3, h4⟩ := e2
  have key : ∀ p ∈ T.tf, PySem.W.codeHdIn (frN h.get? (He.asD h.get? n)) (He.cT (frN h.get? (He.asD h.get? n)) p).1 (He.cT (frN h.get? (He.asD h.get? n)) p).2 = true ∧ ∃ o, h.get? (He.cT (frN h.get? (He.asD h.get? n)) p).2 = some o ∧ He.emptyTab o = true := fun p hp => by
    have h5 := List.all_eq_true.mp h4 p hp
    rw [Bool.and_eq_true] at h5
    refine ⟨h5.1, ?_⟩
    have h6 := h5.2
    split at h6
    · exact ⟨_, by assumption, h6⟩
    · cases h6
  exact ⟨e1, h1, h2, h3, fun p hp => (key p hp).1, fun p hp => by
    obtain ⟨_, o, q, z⟩ := key p hp
    exact frN_none q z, fun p hp => by
    obtain ⟨_, o, q, z⟩ := key p hp
    rw [q, He.emptyTab_eq z]⟩
def hookC (n : Nat) (T : Txt) : PySem.W.Hook where
  α := AlC
  obs := fun s => obsCG n T s.heap.get?
  val := fun _ => (He.valD T.fn, true)
  says := fun _ h => ∃ K : PySem.W.Frag, K.In h ∧ NoL K ∧ SaysC T h K
  of := fun _ _ e => ⟨_, frN_in, frN_no, saysC_of e⟩
  keeps := fun _ _ _ ⟨K, hK, hn, c⟩ k => ⟨K, PySem.W.Frag.In.keeps hK k, hn, ⟨c.d, c.cons, c.ex, c.u, c.hd, c.out, fun p hp => k _ _ (c.empty p hp)⟩⟩
theorem obsCG_eq {n : Nat} {T : Txt} {g : Addr → Option Obj} {s : Shared} (h : ∀ a, g a = s.heap.get? a) : obsCG n T g = (hookC n T).obs s := by
  have e : g = s.heap.get? := funext h
  rw [e] <;> rfl
section
variable {T : Txt} {h : Heap} {K : PySem.W.Frag}
theorem SaysC.con (c : SaysC T h K) {q : Str × PV} (hq : q ∈ T.cs) : conF K q = true := List.all_eq_true.mp c.cons q hq
theorem SaysC.fact (c : SaysC T h K) {f : He.Fa} (hf : f ∈ T.fa) : f.ok K = true := by
  obtain ⟨j, hj⟩ := List.mem_iff_getElem?.mp hf
  exact c.d.fact j hj
end
def chkAll (nm : Nm) : List Fn → List Df → Bool
  | [], [] => true
  | F :: fs, d :: ds => dfB nm F d && chkAll nm fs ds
  | _, _ => false
def Txt.ok (T : Txt) : Bool := decide (T.fx.length = T.ds.length) && decide (T.cx.length = T.pr.con.length) && chkAll T.nms T.pr.fns T.ds && T.hs.all fun q => hlB T.kx T.sub q.1 q.2
theorem chkAll_get {nm : Nm} : ∀ {fs : List Fn} {ds : List Df} {i : Nat} {d : Df}, chkAll nm fs ds = true → ds[i]? = some d → ∃ F, fs[i]? = some F ∧ dfB nm F d = true
  | [], [], i, d, _, h => by simp at h
  | [], _ :: _, _, _, h, _ => by cases h
  | _ :: _, [], _, _, h, _ => by cases h
  | F :: fs, e :: ds, 0, d, h, h2 => by
    simp only [chkAll, Bool.and_eq_true] at h
    simp at h2
    subst h2
    exact ⟨F, rfl, h.1⟩
  | F :: fs, e :: ds, i + 1, d, h, h2 => by
    simp only [chkAll, Bool.and_eq_true] at h
    obtain ⟨F', h3, h4⟩ := chkAll_get (i := i) h.2 (by simpa using h2)
    exact ⟨F', by simpa using h3, h4⟩
def gloOf (T : Txt) (P : Program) (w : World) (K : PySem.W.Frag) (mg : Str → Option Value) (base : Heap) : Glo := ⟨P, w, K, mg, base, T.pr, T.fx.map (He.ga K), T.fx, T.cx, T.kx.map (He.ga K), T.kx, T.bx, T.tf.map (tbl K), T.sub, T.hs.map (·.1)⟩
section
variable {T : Txt} {P : Program} {w : World} {K : PySem.W.Frag} {mg : Str → Option Value} {base h : Heap}
theorem txt_def (ok : T.ok = true) (c : SaysC T h K) {i : Nat} {x : Str} (hx : T.fx[i]? = some x) : ∃ F d fd, T.ds[i]? = some d ∧ T.pr.fns[i]? = some F ∧ dfB T.nms F d = true ∧ FunD K x x (defArgs d.st) (defBody d.st) (defScope d.st) [] [] (He.ga K x) fd := by
  unfold Txt.ok at ok
  simp only [Bool.and_eq_true, decide_eq_true_eq] at ok
  obtain ⟨⟨⟨o1, o2⟩, o3⟩, o4⟩ := ok
  have hi : i < T.ds.length := by rw [← o1]; exact (List.getElem?_eq_some_iff.mp hx).1
  have hd : T.ds[i]? = some T.ds[i] := List.getElem?_eq_getElem hi
  obtain ⟨F, f1, f2⟩ := chkAll_get o3 hd
  have hz : T.fn[i]? = some (dfD x T.ds[i]) := by
    unfold Txt.fn
    rw [List.getElem?_append_left (by rw [List.length_zipWith, o1, Nat.min_self]; exact hi), List.getElem?_zipWith, hx, hd]
  obtain ⟨fd, hf⟩ := c.d.def_ i hz
  exact ⟨F, _, fd, hd, f1, f2, hf⟩
theorem txt_gok (ok : T.ok = true) (X : K.In h) (N : h.Ns mainGlobals mg) (c : SaysC T h K) : GOk (gloOf T P w K mg base) := by
  refine ⟨fun i x hx => ?_, fun i x hx => ?_, fun x hx => ?_, fun i x hx => ?_, fun i x l hx hv => ?_, fun hne i j a b ha hb => ?_, fun q hq => ?_⟩
  · have o2 : T.cx.length = T.pr.con.length := by
      unfold Txt.ok at ok
      simp only [Bool.and_eq_true, decide_eq_true_eq] at ok
      exact ok.1.1.2
    have hi : i < T.pr.con.length := by rw [← o2]; exact (List.getElem?_eq_some_iff.mp hx).1
    have hv : T.pr.con[i]? = some T.pr.con[i] := List.getElem?_eq_getElem hi
    have hm : (x, T.pr.con[i]) ∈ T.cs := by
      refine List.mem_of_getElem? (i := i) ?_
      unfold Txt.cs
      rw [List.getElem?_zip_eq_some]
      exact ⟨hx, hv⟩
    have cf := c.con hm
    unfold conF at cf
    split at cf
    · rename_i u e
      obtain ⟨y, r, f⟩ := conB_ok cf
      exact ⟨_, u, y, hv, PySem.W.mg_of X N e, r, f⟩
    · cases cf
  · obtain ⟨F, d, fd, _, _, _, hf⟩ := txt_def ok c hx
    have hg : (He.Fa.glo x).ok K = true := by
      have hi : i < T.fx.length := (List.getElem?_eq_some_iff.mp hx).1
      refine c.d.fact i ?_
      unfold Txt.fa
      rw [List.getElem?_append_left (by simpa using hi), List.getElem?_map]
      show Option.map He.Fa.glo T.fx[i]? = _
      have hx' : T.fx[i]? = some x := hx
      rw [hx']; rfl
    refine ⟨He.ga K x, ?_, He.glo_ok X N hg, hf.kp⟩
    show (T.fx.map (He.ga K))[i]? = _
    have hx' : T.fx[i]? = some x := hx
    rw [List.getElem?_map, hx']; rfl
  · obtain ⟨j, hj, e⟩ := List.mem_iff_getElem.mp (show x ∈ T.bx from hx)
    have hg : (He.Fa.free x).ok K = true := by
      obtain ⟨i, hi⟩ := List.mem_iff_getElem?.mp (show He.Fa.free x ∈ T.fa from by
        unfold Txt.fa
        exact List.mem_append_right _ (List.mem_append_left _ (List.mem_map.mpr ⟨x, by rw [← e]; exact List.getElem_mem hj, rfl⟩)))
      exact c.d.fact i hi
    exact He.free_ok X N hg
  · have hx' : T.kx[i]? = some x := hx
    have hm : x ∈ T.kx := List.mem_of_getElem? hx'
    have h1 : (He.Fa.glo x).ok K = true := c.fact (by
      unfold Txt.fa
      exact List.mem_append_right _ (List.mem_append_right _ (List.mem_append_left _ (List.mem_map.mpr ⟨x, hm, rfl⟩))))
    have h2 : (He.Fa.exc x).ok K = true := c.fact (by
      unfold Txt.fa
      exact List.mem_append_right _ (List.mem_append_right _ (List.mem_append_right _ (List.mem_append_left _ (List.mem_map.mpr ⟨x, hm, rfl⟩)))))
    obtain ⟨k1, k2, k3, k4⟩ := He.exc_ok h2
    refine ⟨He.ga K x, ?_, He.glo_ok X N h1, k1, k2, k3, k4⟩
    show (T.kx.map (He.ga K))[i]? = _
    rw [List.getElem?_map, hx']; rfl
  · have hm : (x, PV.tup l) ∈ T.cs := by
      refine List.mem_of_getElem? (i := i) ?_
      unfold Txt.cs
      rw [List.getElem?_zip_eq_some]
      exact ⟨hx, hv⟩
    have cf := c.con hm
    unfold conF at cf
    split at cf
    · rename_i u e
      obtain ⟨a, o, rfl, r⟩ := conB_tup cf
      exact ⟨a, o, PySem.W.mg_of X N e, r⟩
    · cases cf
  · have hne' : T.hs.isEmpty = false := by
      cases e : T.hs with
      | nil => exact (hne (show T.hs.map (·.1) = [] by rw [e]; rfl)).elim
      | cons _ _ => rfl
    have ex := c.ex
    rw [hne', Bool.false_or] at ex
    have ha' : (T.kx.map (He.ga K))[i]? = some a := ha
    have hb' : (T.kx.map (He.ga K))[j]? = some b := hb
    rw [List.getElem?_map] at ha' hb'
    obtain ⟨x, hx, rfl⟩ := Option.map_eq_some_iff.mp ha'
    obtain ⟨y, hy, rfl⟩ := Option.map_eq_some_iff.mp hb'
    have g := of_decide_eq_true (List.all_eq_true.mp (List.all_eq_true.mp ex i (List.mem_range.mpr (List.getElem?_eq_some_iff.mp hx).1)) j (List.mem_range.mpr (List.getElem?_eq_some_iff.mp hy).1))
    rw [List.getD_eq_getElem?_getD, List.getD_eq_getElem?_getD, hx, hy] at g
    exact g
  · obtain ⟨z, hz, rfl⟩ := List.mem_map.mp (show q ∈ T.hs.map (·.1) from hq)
    obtain ⟨fd, hf⟩ := c.d.defs (d := dfD z.1.x ⟨z.2, []⟩) (by
      unfold Txt.fn
      exact List.mem_append_right _ (List.mem_map.mpr ⟨z, hz, rfl⟩))
    have hg : (He.Fa.glo z.1.x).ok K = true := c.fact (by
      unfold Txt.fa
      exact List.mem_append_right _ (List.mem_append_right _ (List.mem_append_right _ (List.mem_append_right _ (List.mem_map.mpr ⟨z, hz, rfl⟩)))))
    have o4 : (T.hs.all fun q => hlB T.kx T.sub q.1 q.2) = true := by
      unfold Txt.ok at ok
      rw [Bool.and_eq_true] at ok
      exact ok.2
    exact ⟨He.ga K z.1.x, z.2, fd, He.glo_ok X N hg, hf.kp, hf, List.all_eq_true.mp o4 z hz⟩
theorem txt_tab (c : SaysC T h K) (TB : ∀ p ∈ T.tf.map (He.cT K), LamX.TabB base mg p.1 p.2) {x : Str} (hx : x ∈ T.fx) {pa : Arguments} {bd : List Stmt} {sc : Scope} {fd : FuncData} (hf : FunD K x x pa bd sc [] [] (He.ga K x) fd) (hne : (gloOf T P w K mg base).hx ≠ []) (cc : Addr) (e : fd.code = .ref cc) :
    ∃ Pt, LamX.TabB (gloOf T P w K mg base).base (gloOf T P w K mg base).mg cc Pt ∧ (Pt, (x ++ ".<locals>.") ++ "<lambda>") ∈ (gloOf T P w K mg base).T ∧ ∀ p ∈ (gloOf T P w K mg base).T, p.1 = Pt → p.2 = (x ++ ".<locals>.") ++ "<lambda>" := by
  have hm : ((x, none) : He.Defn) ∈ T.tf := by
    unfold Txt.tf
    have : T.hs.isEmpty = false := by
      cases e : T.hs with
      | nil => exact (hne (show T.hs.map (·.1) = [] by rw [e]; rfl)).elim
      | cons _ _ => rfl
    rw [this]
    exact List.mem_map.mpr ⟨x, hx, rfl⟩
  obtain ⟨oc, od, dV, kV, doc, pm, an, cdv, ct, osl, rfl, lk, hcd, _, _⟩ := hf.ex
  have ec : (He.cT K (x, none)).1 = cc := He.codeOf_eq lk e
  have hT : tbl K (x, none) ∈ T.tf.map (tbl K) := List.mem_map.mpr ⟨_, hm, rfl⟩
  refine ⟨(He.cT K (x, none)).2, by rw [← ec]; exact TB _ (List.mem_map.mpr ⟨_, hm, rfl⟩), hT, fun p hp e1 => ?_⟩
  have u := List.all_eq_true.mp (List.all_eq_true.mp c.u p hp) _ hT
  rw [Bool.or_eq_true] at u
  rcases u with u | u
  · rw [Bool.not_eq_true'] at u
    have : p.1 = (tbl K (x, none)).1 := e1
    rw [this] at u
    simp at u
  · exact beq_iff_eq.mp u
/-- the tables, as the heap at hand has them -/
theorem txt_has (ok : T.ok = true) (c : SaysC T h K) (TB : ∀ p ∈ T.tf.map (He.cT K), LamX.TabB base mg p.1 p.2) (i : Nat) (a : Addr) (ha : (gloOf T P w K mg base).fa[i]? = some a) : ∃ F d fd, HasDef (gloOf T P w K mg base) i a F d fd := by
  have ha' : (T.fx.map (He.ga K))[i]? = some a := ha
  rw [List.getElem?_map] at ha'
  obtain ⟨x, hx, rfl⟩ := Option.map_eq_some_iff.mp ha'
  obtain ⟨F, d, fd, h1, h2, h3, h4⟩ := txt_def ok c hx
  exact ⟨F, d, fd, h2, ⟨x, x, h4, txt_tab c TB (List.mem_of_getElem? hx) h4⟩, h3⟩
/-- what is asked of the law's def -/
def spLaw (T : Txt) (K : PySem.W.Frag) : Sp := fun vs H Q _ => ∃ (a : Addr) (ns : List Int), vs = [.ref a] ∧ (∀ p ∈ T.tf, H (He.cT K p).2 = some (.tbl #[])) ∧ SqL K H a (ns.map V.int) ∧ ns.length ≤ 63 ∧ ∀ H', Q (.bl true) H'
theorem script_fz {K : PySem.W.Frag} {H : Hp} : ∀ ks : List Int, FzAll K H (ks.map V.int) (ks.map PV.int)
  | [] => .nil
  | k :: ks => .cons (.int k) (script_fz ks)
theorem law_fn {l : PySem.W.OpenLaw} (ok : T.ok = true) (hn : NoL K) (X : K.In h) (N : h.Ns mainGlobals mg) (c : SaysC T h K) {n i : Nat} {x p : Str} (hx : T.fx[i]? = some x) {d : Df} (hd : T.ds[i]? = some d) {as : List Arg} (hp1 : argsOf (defArgs d.st) = some as) (hp2 : as.map (·.arg) = [p])
    (law : ∀ ns : List Int, ns.length ≤ 63 → ∃ m, run T.pr (n + 1) i [.lst (ns.map .int)] [] = .ok (.bl true) m) :
    LamX.LawAtS l w K (fun _ _ _ _ _ _ => False) (3 * (n + 1) + 5) 63 p mg (He.ga K x) h := by
  obtain ⟨F, d0, fd, e1, e2, e3, e4⟩ := txt_def ok c hx
  rw [hd] at e1
  cases e1
  refine ⟨fd, T.tf.map (He.cT K), spLaw T K, fun q hq => ?_, fun q hq => ?_, fun q hq => ?_, fun s v => ?_, fun H a ns hl _ hT hS => ⟨a, ns, rfl, fun q hq => hT _ (List.mem_map.mpr ⟨q, hq, rfl⟩), hS, hl, fun _ => rfl⟩, fun base Xb Nb TB => ?_⟩
  · obtain ⟨z, hz, rfl⟩ := List.mem_map.mp hq
    exact c.empty z hz
  · obtain ⟨z, hz, rfl⟩ := List.mem_map.mp hq
    exact c.out z hz
  · obtain ⟨z, hz, rfl⟩ := List.mem_map.mp hq
    exact PySem.W.codeHd_of_K X (c.hd z hz)
  · have e5 := e4
    rw [argsOf_eq hp1] at e5
    have b := FunD.bindsA (ps := [p]) e5 fun kV doc pm an cdv ct us hl => by
      have := bind_gen (x := x) (qual := x) (as := as) (body := defBody d.st) (scope := defScope d.st) (kV := kV) (doc := doc) (pm := pm) (an := an) (cdv := cdv) (ct := ct) (us := us) (by rw [hp2]; simp) (by rw [hp2]; exact hl)
      rw [hp2] at this
      exact this
    exact b s [v] rfl
  · have hG : GOk (gloOf T l.prog w K mg base) := txt_gok ok X N c
    have hA := fns_all hG (txt_has ok c TB) n
    have H : HasDef (gloOf T l.prog w K mg base) i (He.ga K x) F d fd := ⟨e2, ⟨x, x, e4, txt_tab c TB (List.mem_of_getElem? hx) e4⟩, e3⟩
    obtain ⟨ps, ⟨as', a1, a2⟩, h1, h2, h3, h4, h5, h6⟩ := H.parts
    rw [hp1] at a1
    cases a1
    rw [hp2] at a2
    subst a2
    have D := def_okL hG hA H h1 h2 h3 h4
    refine ⟨fun vs H Q E q => by obtain ⟨a, ns, rfl, _⟩ := q; rfl, fun A outer s H args us vs Q E hr he hb hv q => ?_⟩
    have q' : spFL (gloOf T l.prog w K mg base) (n + 1) i F.np vs H Q (fun _ _ _ => False) := by
      obtain ⟨a, ns, rfl, hT, hS, hl, hQ⟩ := q
      have key : ∀ H : Hp, (∀ p ∈ T.tf, H (He.cT K p).2 = some (.tbl #[])) → FL H a (ns.map V.int) → spF (gloOf T l.prog w K mg base) (n + 1) i F.np [.ref a] H Q (fun _ _ _ => False) := fun H hT fl => by
        refine ⟨h1, [], [], [.lst (ns.map .int)], .cons (.d (.lst fl (by rw [List.length_map]; exact small_size (by omega)) (script_fz ns))) .nil, ⟨fun z hz => ?_, rfl, List.nodup_nil, fun k a l e => by simp at e⟩, ?_⟩
        · obtain ⟨y, hy, rfl⟩ := List.mem_map.mp (show z ∈ T.tf.map (tbl K) from hz)
          exact LamX.TabS.nil (hT y hy)
        · obtain ⟨m, e⟩ := law ns hl
          show Post _ _ (run T.pr (n + 1) i [.lst (ns.map .int)] []) H [] Q _
          rw [e]
          intro x H' α' st rx me
          have := fz_bl rx
          subst this
          exact hQ H'
      rcases hS with (hS | hS) | ⟨o, its, k, hk, hc, _⟩
      · refine .inr ⟨a, _, hS, fun o => key _ (fun p hp => ?_) ⟨o, upd_same⟩⟩
        rw [upd_ne]
        · exact hT p hp
        · intro z
          have := hT p hp
          rw [z, hS] at this
          cases this
      · exact .inl (key H hT hS)
      · have := hn a o hk
        rw [isLst_of hc] at this
        cases this
    refine codeAny_mono (D.run A outer s H args us vs Q (fun _ _ _ => False) hr he hb hv q') fun r s' h => ?_
    cases r with
    | error e =>
      have h2 : L2.CX l.prog w outer H s (fun _ _ _ => False) e s' := h
      obtain ⟨_, _, _, _, _, _, _, _, _, _, _, _, z⟩ := h2
      exact z.elim
    | ok fl => cases fl <;> exact h
end
end Pv
namespace Pv
/-! ## To run the evaluator by simp -/
def ob {α : Type} (o : Option Bool) (f g : R α) : R α := match o with
  | some true => f
  | some false => g
  | none => .no
def obl {α : Type} (x : PV) (f g : R α) : R α := match x with
  | .bl true => f
  | .bl false => g
  | _ => .no
theorem ob_some {α : Type} (b : Bool) (f g : R α) : ob (some b) f g = if b = true then f else g := by cases b <;> rfl
theorem ob_map {α : Type} (o : Option Bool) (h : Bool → Bool) (f g : R α) : ob (o.map h) f g = ob o (ob (some (h true)) f g) (ob (some (h false)) f g) := by
  rcases o with _ | _ | _ <;> rfl
theorem obl_bl {α : Type} (b : Bool) (f g : R α) : obl (.bl b) f g = if b = true then f else g := by cases b <;> rfl
theorem bnd_if {α β : Type} {c : Prop} [Decidable c] (a b : R α) (f : α → Mem → R β) : bnd (if c then a else b) f = if c then bnd a f else bnd b f := by split <;> rfl
theorem lft_if {α : Type} {c : Prop} [Decidable c] (a b : Option α) (m : Mem) : lft (if c then a else b) m = if c then lft a m else lft b m := by split <;> rfl
section
variable {C : List PV} {Φ : Nat → List PV → Mem → R PV} {ρ : Env} {m : Mem}
theorem x_k (v : PV) : evE C Φ (.k v) ρ m = .ok v m := rfl
theorem x_loc (i : Nat) : evE C Φ (.loc i) ρ m = lft (ρ[i]?.join) m := by
  simp only [evE]
  rcases ρ[i]? with _ | _ | v <;> rfl
theorem x_glo (i : Nat) : evE C Φ (.glo i) ρ m = lft C[i]? m := rfl
theorem x_bin (mu : Bool) (o : Op) (a b : E) : evE C Φ (.bin mu o a b) ρ m = bnd (evE C Φ a ρ m) fun x m => bnd (evE C Φ b ρ m) fun y m => binop mu o x y m := rfl
theorem x_neg (a : E) : evE C Φ (.neg a) ρ m = bnd (evE C Φ a ρ m) fun x m => match x with
    | .int i => .ok (.int (-i)) m
    | _ => .no := rfl
theorem x_not (a : E) : evE C Φ (.not a) ρ m = bnd (evE C Φ a ρ m) fun x m => lft ((truth m x).map fun b => .bl (!b)) m := rfl
theorem x_and (a b : E) : evE C Φ (.and a b) ρ m = bnd (evE C Φ a ρ m) fun x m => obl x (evE C Φ b ρ m) (.ok (.bl false) m) := rfl
theorem x_or (a b : E) : evE C Φ (.or a b) ρ m = bnd (evE C Φ a ρ m) fun x m => obl x (.ok (.bl true) m) (evE C Φ b ρ m) := rfl
theorem x_cmp (c : Cm) (a b : E) : evE C Φ (.cmp c a b) ρ m = bnd (evE C Φ a ρ m) fun x m => bnd (evE C Φ b ρ m) fun y m => lft ((cmpop c m x y).map .bl) m := rfl
theorem x_cmp2 (c d : Cm) (a b e : E) : evE C Φ (.cmp2 c d a b e) ρ m = bnd (evE C Φ a ρ m) fun x m => bnd (evE C Φ b ρ m) fun y m => ob (cmpop c m x y) (bnd (evE C Φ e ρ m) fun z m => lft ((cmpop d m y z).map .bl) m) (.ok (.bl false) m) := rfl
theorem x_ite (c a b : E) : evE C Φ (.ite c a b) ρ m = bnd (evE C Φ c ρ m) fun x m => ob (truth m x) (evE C Φ a ρ m) (evE C Φ b ρ m) := rfl
theorem x_nil : evE C Φ .nil ρ m = .ok (.tup []) m := rfl
theorem x_cons (a l : E) : evE C Φ (.cons a l) ρ m = bnd (evE C Φ a ρ m) fun x m => bnd (evE C Φ l ρ m) fun r m => .ok (.tup (x :: unl r)) m := rfl
theorem x_tup (l : E) : evE C Φ (.tup l) ρ m = bnd (evE C Φ l ρ m) fun r m => if (unl r).all PV.isD && decide ((unl r).length ≤ 1000) then .ok (.tup (unl r)) m else .no := rfl
theorem x_lst (mu : Bool) (l : E) : evE C Φ (.lst mu l) ρ m = bnd (evE C Φ l ρ m) fun r m => if (unl r).length ≤ 1000 then mkl mu (unl r) m else .no := rfl
theorem x_ix (a b : E) : evE C Φ (.ix a b) ρ m = bnd (evE C Φ a ρ m) fun x m => bnd (evE C Φ b ρ m) fun y m => lft (item m x y) m := rfl
theorem x_sl (a lo hi : E) : evE C Φ (.sl a lo hi) ρ m = bnd (evE C Φ a ρ m) fun x m => bnd (evE C Φ lo ρ m) fun y m => if (optI y).isSome then bnd (evE C Φ hi ρ m) fun z m => lft (slice m x y z) m else .no := rfl
theorem x_call (f : Nat) (l : E) : evE C Φ (.call f l) ρ m = bnd (evE C Φ l ρ m) fun r m => Φ f (unl r) m := rfl
theorem x_bf (mu : Bool) (b : Bf) (l : E) : evE C Φ (.bf mu b l) ρ m = bnd (evE C Φ l ρ m) fun r m => callB mu b (unl r) m := rfl
theorem x_isi (a : E) (t : Ty) : evE C Φ (.isi a t) ρ m = bnd (evE C Φ a ρ m) fun x m => lft ((isTy m x t).map .bl) m := rfl
theorem x_rng (a : E) : evE C Φ (.rng a) ρ m = bnd (evE C Φ a ρ m) fun x m => match x with
    | .int i => if i ≤ (big : Int) ∧ small i = true then .ok (.lst (rangeL 0 i.toNat)) m else .no
    | _ => .no := rfl
theorem x_zip (a b : E) : evE C Φ (.zip a b) ρ m = bnd (evE C Φ a ρ m) fun x m => bnd (evE C Φ b ρ m) fun y m => match x, y with
    | .tup l, .tup r => .ok (.lst (zipL l r)) m
    | .lst l, .lst r => .ok (.lst (zipL l r)) m
    | .tup l, .lst r => .ok (.lst (zipL l r)) m
    | .lst l, .tup r => .ok (.lst (zipL l r)) m
    | _, _ => .no := rfl
theorem x_zip3 (a b c : E) : evE C Φ (.zip3 a b c) ρ m = bnd (evE C Φ a ρ m) fun x m => bnd (evE C Φ b ρ m) fun y m => bnd (evE C Φ c ρ m) fun z m => match x, y, z with
    | .lst l, .lst r, .lst s => .ok (.lst (zipL3 l r s)) m
    | _, _, _ => .no := rfl
theorem x_enu (a : E) : evE C Φ (.enu a) ρ m = bnd (evE C Φ a ρ m) fun x m => match x with
    | .lst l => .ok (.lst (enumL 0 l)) m
    | .tup l => .ok (.lst (enumL 0 l)) m
    | _ => .no := rfl
theorem x_rng2 (a b : E) : evE C Φ (.rng2 a b) ρ m = bnd (evE C Φ a ρ m) fun x m => bnd (evE C Φ b ρ m) fun y m => match x, y with
    | .int i, .int j => if j - i ≤ (big : Int) ∧ small i = true ∧ small j = true then .ok (.lst (rangeL i (j - i).toNat)) m else .no
    | _, _ => .no := rfl
theorem x_trng (a : E) : evE C Φ (.trng a) ρ m = bnd (evE C Φ a ρ m) fun x m => match x with
    | .int i => if i ≤ (big : Int) ∧ small i = true then .ok (.tup (rangeL 0 i.toNat)) m else .no
    | _ => .no := rfl
theorem x_trng2 (a b : E) : evE C Φ (.trng2 a b) ρ m = bnd (evE C Φ a ρ m) fun x m => bnd (evE C Φ b ρ m) fun y m => match x, y with
    | .int i, .int j => if j - i ≤ (big : Int) ∧ small i = true ∧ small j = true then .ok (.tup (rangeL i (j - i).toNat)) m else .no
    | _, _ => .no := rfl
/-- the turns of a comprehension -/
def cmpB (C : List PV) (Φ : Nat → List PV → Mem → R PV) (ρ : Env) (own : List Nat) (t : Tg) (c e : E) : PV → Mem → R (Option PV) := fun x m => match asg t x (wipeP ρ own) with
  | some ρ' => compT (evE C Φ c ρ') (evE C Φ e ρ') m
  | none => .no
theorem x_comp (mu : Bool) (own : List Nat) (t : Tg) (s c e : E) : evE C Φ (.comp mu own t s c e) ρ m = bnd (evE C Φ s ρ m) fun sv m => match sv with
    | .tup l => bnd (compL (cmpB C Φ ρ own t c e) l m) fun vs m => mkl mu vs m
    | .lst l => bnd (compL (cmpB C Φ ρ own t c e) l m) fun vs m => mkl mu vs m
    | .cell k => match m[k]? with
      | some l => bnd (compC (cmpB C Φ ρ own t c e) k l.length l.length m) fun vs m => mkl mu vs m
      | none => .no
    | _ => .no := by
  rfl
theorem x_dget (ks : List (List Nat)) (vs k d : E) : evE C Φ (.dget ks vs k d) ρ m = bnd (evE C Φ vs ρ m) fun vr m => bnd (evE C Φ k ρ m) fun x m => bnd (evE C Φ d ρ m) fun y m => match x with
    | .str s => .ok ((lkS ks (unl vr) s).getD y) m
    | _ => .no := rfl
theorem opt_int (o : Option Nat) : Option.map (fun i => PV.int i) (do let a ← o; pure (a : Int)) = o.map fun i : Nat => PV.int i := by cases o <;> rfl
theorem x_index (o e : E) : evE C Φ (.index o e) ρ m = bnd (evE C Φ o ρ m) fun x m => match x with
    | .lst l => bnd (evE C Φ e ρ m) fun y m => if (vw m y).isD && decide (depAll l ≤ 62) && decide ((vw m y).dep ≤ 62) then lft ((l.findIdx? fun z => z.eqv (vw m y)).map fun i : Nat => .int i) m else .no
    | _ => .no := by simp only [evE, opt_int] <;> rfl
theorem x_indexc (i : Nat) (e : E) : evE C Φ (.indexc i e) ρ m = match C[i]? with
    | some (.tup l) => bnd (evE C Φ e ρ m) fun y m => match y, strsOf l with
      | .str s, some ss => lft ((ss.findIdx? fun z => z == s).map fun i : Nat => .int i) m
      | _, _ => .no
    | _ => .no := by simp only [evE, opt_int] <;> rfl
theorem x_tell (ws : Cls) (d : An) (e : E) : evE C Φ (.tell ws d e) ρ m = match evE C Φ e ρ m with
    | .ok _ m => .ok d.pv m
    | .exc x m => match ws.at x.c with
      | some w => .ok w.pv m
      | none => .no
    | .no => .no := by first | rfl | simp only [evE]
theorem s_skip : evS C Φ .skip ρ m = .ok (.next, ρ) m := rfl
/-- what follows a statement -/
def thenS (q : Fl × Env) (m : Mem) (f : Env → Mem → R (Fl × Env)) : R (Fl × Env) := match q.1 with
  | .next => f q.2 m
  | x => .ok (x, q.2) m
theorem thenS_next (ρ : Env) (m : Mem) (f : Env → Mem → R (Fl × Env)) : thenS (.next, ρ) m f = f ρ m := rfl
theorem thenS_ret (v : PV) (ρ : Env) (m : Mem) (f : Env → Mem → R (Fl × Env)) : thenS (.ret v, ρ) m f = .ok (.ret v, ρ) m := rfl
theorem s_seq (a b : S) : evS C Φ (.seq a b) ρ m = bnd (evS C Φ a ρ m) fun q m => thenS q m fun ρ m => evS C Φ b ρ m := rfl
theorem s_ex (e : E) : evS C Φ (.ex e) ρ m = bnd (evE C Φ e ρ m) fun _ m => .ok (.next, ρ) m := rfl
theorem s_ret (e : E) : evS C Φ (.ret e) ρ m = bnd (evE C Φ e ρ m) fun v m => .ok (.ret v, ρ) m := rfl
theorem s_asg (t : Tg) (e : E) : evS C Φ (.asg t e) ρ m = bnd (evE C Φ e ρ m) fun v m => lft ((asg t v ρ).map fun ρ' => (.next, ρ')) m := rfl
theorem s_par (t : Tg) (l : E) : evS C Φ (.par t l) ρ m = bnd (evE C Φ l ρ m) fun v m => lft ((asg t v ρ).map fun ρ' => (.next, ρ')) m := rfl
theorem s_ite (c : E) (a b : S) : evS C Φ (.ite c a b) ρ m = bnd (evE C Φ c ρ m) fun x m => ob (truth m x) (evS C Φ a ρ m) (evS C Φ b ρ m) := rfl
def forB (C : List PV) (Φ : Nat → List PV → Mem → R PV) (t : Tg) (b : S) : PV → Env → Mem → R (Fl × Env) := fun x ρ m => match asg t x ρ with
  | some ρ' => evS C Φ b ρ' m
  | none => .no
theorem s_for (t : Tg) (s : E) (b : S) : evS C Φ (.for_ t s b) ρ m = bnd (evE C Φ s ρ m) fun sv m => match sv with
    | .tup l => forL (forB C Φ t b) l ρ m
    | .lst l => forL (forB C Φ t b) l ρ m
    | .cell k => match m[k]? with
      | some l => forC (forB C Φ t b) k l.length l.length ρ m
      | none => .no
    | _ => .no := rfl
theorem forB_eq (t : Tg) (b : S) (x : PV) : forB C Φ t b x ρ m = match asg t x ρ with
  | some ρ' => evS C Φ b ρ' m
  | none => .no := rfl
end
theorem fin_ret (v : PV) (ρ : Env) (m : Mem) : fin (.ret v, ρ) m = .ok v m := rfl
theorem fin_next (ρ : Env) (m : Mem) : fin (.next, ρ) m = .ok .non m := rfl
theorem D_non : PV.non.isD = true := by simp [PV.isD]
theorem D_bl (b : Bool) : (PV.bl b).isD = true := by simp [PV.isD]
theorem D_int (i : Int) : (PV.int i).isD = true := by simp [PV.isD]
theorem D_str (s : List Nat) : (PV.str s).isD = true := by simp [PV.isD]
theorem D_tup (l : List PV) : (PV.tup l).isD = true := by simp [PV.isD]
theorem D_lst (l : List PV) : (PV.lst l).isD = true := by simp [PV.isD]
theorem D_cell (k : Nat) : (PV.cell k).isD = false := by simp [PV.isD]
theorem D_fn (k : Nat) : (PV.fn k).isD = false := by simp [PV.isD]
theorem P_non : PV.non.dep = 0 := by simp [PV.dep]
theorem P_bl (b : Bool) : (PV.bl b).dep = 0 := by simp [PV.dep]
theorem P_int (i : Int) : (PV.int i).dep = 0 := by simp [PV.dep]
theorem P_str (s : List Nat) : (PV.str s).dep = 0 := by simp [PV.dep]
theorem P_tup (l : List PV) : (PV.tup l).dep = depAll l + 1 := by simp [PV.dep]
theorem P_lst (l : List PV) : (PV.lst l).dep = depAll l + 1 := by simp [PV.dep]
theorem P_nil : depAll [] = 0 := by simp [depAll]
theorem P_cons (x : PV) (l : List PV) : depAll (x :: l) = max x.dep (depAll l) := by simp [depAll]
theorem F_non : PV.non.flat = true := by simp [PV.flat]
theorem F_bl (b : Bool) : (PV.bl b).flat = true := by simp [PV.flat]
theorem F_int (i : Int) : (PV.int i).flat = true := by simp [PV.flat]
theorem F_str (s : List Nat) : (PV.str s).flat = true := by simp [PV.flat]
theorem F_tup (l : List PV) : (PV.tup l).flat = flatAll l := by simp [PV.flat]
theorem F_lst (l : List PV) : (PV.lst l).flat = flatAll l := by simp [PV.flat]
theorem F_cell (k : Nat) : (PV.cell k).flat = false := by simp [PV.flat]
theorem F_fn (k : Nat) : (PV.fn k).flat = false := by simp [PV.flat]
theorem F_nil : flatAll [] = true := by simp [flatAll]
theorem F_cons (x : PV) (l : List PV) : flatAll (x :: l) = (x.flat && flatAll l) := by simp [flatAll]
theorem flat_D {v : PV} (h : v.flat = true) : v.isD = true := by
  cases v <;> first | rfl | (simp [F_cell, F_fn] at h)
/-! ### comparisons of data -/
theorem vw_data {m : Mem} {v : PV} (h : v.isD = true) : vw m v = v := by
  cases v <;> first | rfl | cases h
theorem eqM_d {m : Mem} {x y : PV} (hx : x.isD = true) (hy : y.isD = true) (hd : y.dep ≤ 64) : eqM m x y = some (x.eqv y) := by
  unfold eqM
  rw [vw_data hx, vw_data hy, hx, hy, if_pos]
  simp only [Bool.true_and, decide_eq_true_eq]
  exact Nat.le_trans (Nat.min_le_right _ _) hd
theorem isIn_t {m : Mem} {x : PV} {l : List PV} (hx : x.isD = true) (hd : depAll l ≤ 64) : isIn m x (.tup l) = some (anyEq x l) := by
  unfold isIn
  rw [vw_data hx]
  show (if (x.isD && decide (min (depAll l) x.dep ≤ maxD)) = true then some (anyEq x l) else none) = _
  rw [hx, if_pos]
  simp only [Bool.true_and, decide_eq_true_eq]
  exact Nat.le_trans (Nat.min_le_left _ _) hd
theorem isIn_l {m : Mem} {x : PV} {l : List PV} (hx : x.isD = true) (hd : depAll l ≤ 64) : isIn m x (.lst l) = some (anyEq x l) := by
  unfold isIn
  rw [vw_data hx]
  show (if (x.isD && decide (min (depAll l) x.dep ≤ maxD)) = true then some (anyEq x l) else none) = _
  rw [hx, if_pos]
  simp only [Bool.true_and, decide_eq_true_eq]
  exact Nat.le_trans (Nat.min_le_left _ _) hd
/-! ### a comprehension whose parts leave the store alone -/
theorem compL_pure {f : PV → Mem → R (Option PV)} {g : PV → Option PV} {m : Mem} : ∀ {l : List PV}, (∀ x ∈ l, f x m = .ok (g x) m) → compL f l m = .ok (l.filterMap g) m
  | [], _ => rfl
  | x :: l, h => by
    unfold compL
    rw [h x (by simp), bnd_ok, compL_pure fun y hy => h y (by simp [hy]), bnd_ok, List.filterMap_cons]
    cases g x <;> rfl
theorem compT_all {c e : Mem → R PV} {m : Mem} {v : PV} (hc : c m = .ok (.bl true) m) (he : e m = .ok v m) : compT c e m = .ok (some v) m := by
  unfold compT
  rw [hc, noexc_ok, bnd_ok]
  show bnd (tstB m (.bl true)) _ = _
  simp only [tstB, truth, lft_some, bnd_ok, if_true]
  rw [he, noexc_ok, bnd_ok]
theorem compT_if {c e : Mem → R PV} {m : Mem} {b : Bool} {v : PV} (hc : c m = .ok (.bl b) m) (he : b = true → e m = .ok v m) : compT c e m = .ok (if b = true then some v else none) m := by
  unfold compT
  rw [hc, noexc_ok, bnd_ok]
  show bnd (tstB m (.bl b)) _ = _
  simp only [tstB, truth, lft_some, bnd_ok]
  cases b with
  | true => rw [if_pos rfl, he rfl, noexc_ok, bnd_ok]; rfl
  | false => rfl
theorem vw_t {m : Mem} {l : List PV} : vw m (.tup l) = .tup l := rfl
theorem vw_l {m : Mem} {l : List PV} : vw m (.lst l) = .lst l := rfl
theorem vw_s {m : Mem} {l : List Nat} : vw m (.str l) = .str l := rfl
theorem vw_i {m : Mem} {l : Int} : vw m (.int l) = .int l := rfl
theorem vw_b {m : Mem} {l : Bool} : vw m (.bl l) = .bl l := rfl
theorem eqv_ss {a b : List Nat} : (PV.str a).eqv (.str b) = (a == b) := by simp [PV.eqv]
theorem item_t {m : Mem} {l : List PV} {i : Int} : item m (.tup l) (.int i) = (atI l.length i).bind fun k => l[k]? := rfl
theorem eqv_ii {i j : Int} : (PV.int i).eqv (.int j) = (i == j) := by simp [PV.eqv]
end Pv
set_option maxHeartbeats 4000000
namespace Pv
/-! ## Draws, for any text -/
def goP (pr : Prg) (b : S) (np nl n : Nat) (l : List PV) (m : Mem) : R PV := bnd (evS pr.con (run pr n) b (l.map some ++ List.replicate (nl - np) none) m) fin
theorem run_go {pr : Prg} {i np nl : Nat} {b : S} (h : pr.fns[i]? = some ⟨np, nl, b⟩) (n : Nat) (l : List PV) (m : Mem) (hl : l.length = np := by rfl) : run pr (n + 1) i l m = goP pr b np nl n l m := by
  unfold run
  rw [h]
  simp only [if_pos hl]
  rfl
def cupS : S := .seq (.asg (.v 1) (.bf false .abs (.cons (.ix (.bin false .add (.bf false .list (.cons (.loc 0) (.nil))) (.lst false (.cons (.k (.int 0)) (.nil)))) (.k (.int 0))) (.nil)))) (.ret (.lst true (.cons (.ite (.cmp .ge (.loc 1) (.bin false .pow (.k (.int 10)) (.k (.int 18)))) (.bin false .fdiv (.loc 1) (.k (.int 127))) (.k (.int 0))) (.cons (.bin false .add (.bin false .mod (.bf false .int_ (.cons (.bin false .add (.bin false .mul (.loc 1) (.k (.int 353))) (.k (.int 2797))) (.nil))) (.k (.int 2077503023))) (.k (.int 229))) (.nil)))))
def rollS : S := .seq (.ite (.cmp .gt (.ix (.loc 0) (.k (.int 0))) (.k (.int 0))) (.seq (.asg (.v 2) (.bin false .mod (.bf false .int_ (.cons (.ix (.loc 0) (.k (.int 0))) (.nil))) (.loc 1))) (.seq (.setix (.loc 0) (.k (.int 0)) (.bin false .fdiv (.ix (.loc 0) (.k (.int 0))) (.loc 1))) (.ret (.loc 2)))) (.skip)) (.seq (.setix (.loc 0) (.k (.int 1)) (.bin false .mod (.bf false .int_ (.cons (.bin false .add (.bin false .mul (.ix (.loc 0) (.k (.int 1))) (.k (.int 31177))) (.k (.int 8117))) (.nil))) (.k (.int 2147483543)))) (.seq (.asg (.v 3) (.bin false .mod (.bf false .int_ (.cons (.bin false .mul (.ix (.loc 0) (.k (.int 1))) (.bin false .add (.ix (.loc 0) (.k (.int 1))) (.k (.int 293)))) (.nil))) (.k (.int 2147483587)))) (.ret (.bin false .mod (.bf false .int_ (.cons (.bin false .fdiv (.loc 3) (.k (.int 887))) (.nil))) (.loc 1)))))
def someS (f : Nat) : S := .ret (.ix (.loc 1) (.call f (.cons (.loc 0) (.cons (.bf false .len (.cons (.loc 1) (.nil))) (.nil)))))
/-- the cup stands in the first cell, the others are rest -/
def CupR (rest : List (List PV)) (m : Mem) : Prop := ∃ a b : Int, 0 ≤ a ∧ 0 ≤ b ∧ b < 4294967296 ∧ m = [.int a, .int b] :: rest
abbrev CupM (m : Mem) : Prop := CupR [] m
theorem CupR.tl {rest : List (List PV)} {m : Mem} (c : CupR rest m) : ∃ a b : Int, m = [.int a, .int b] :: rest := by
  obtain ⟨a, b, _, _, _, e⟩ := c
  exact ⟨a, b, e⟩
theorem inL_t {b : Int} (h0 : 0 ≤ b) (h1 : b < 4294967296) : inL b = true := by
  simp [inL]; omega
section
variable {pr : Prg}
theorem roll_ {f n : Nat} {rest : List (List PV)} {m : Mem} {k : Int} (hf : pr.fns[f]? = some ⟨2, 4, rollS⟩) (c : CupR rest m) (h1 : 1 ≤ k) (h2 : k ≤ 1000) : ∃ (r : Int) (m' : Mem), CupR rest m' ∧ 0 ≤ r ∧ r < k ∧ run pr (n + 1) f [.cell 0, .int k] m = .ok (.int r) m' := by
  obtain ⟨a, b, ha, hb, hb2, rfl⟩ := c
  have hk : 0 < k := by omega
  have hk2 : k < 1073741824 := by omega
  rw [run_go hf _ [_, _] _ rfl]
  by_cases h : 0 < a
  · refine ⟨a % k, [.int (a / k), .int b] :: rest, ⟨a / k, b, Int.ediv_nonneg ha (by omega), hb, hb2, rfl⟩, Int.emod_nonneg _ (by omega), Int.emod_lt_of_pos _ hk, ?_⟩
    simp [goP, rollS, x_k, x_loc, x_glo, x_bin, x_neg, x_not, x_and, x_or, x_cmp, x_cmp2, x_ite, x_nil, x_cons, x_tup, x_lst, x_ix, x_sl, x_call, x_bf, x_isi, x_rng, x_zip, x_zip3, x_enu, x_rng2, x_comp, x_dget, x_index, x_indexc, x_tell, s_skip, s_seq, s_ex, s_ret, s_asg, s_par, s_ite, s_for, thenS_next, thenS_ret, fin_ret, fin_next, ob_some, obl_bl, bnd_if, lft_if, unl, bnd_ok, bnd_no, lft_some, lft_none, truth, cmpop, item, vw, atI, h, asg, callB, binop, arith, hk, hk2, evS, D_non, D_bl, D_int, D_str, D_tup, D_lst, P_non, P_bl, P_int, P_str, P_tup, P_lst, P_nil, P_cons, eqM_d, isIn_t, isIn_l]
  · have e : a = 0 := by omega
    subst e
    have q1 : 0 ≤ (b * 31177 + 8117) % 2147483543 := Int.emod_nonneg _ (by omega)
    have q2 : (b * 31177 + 8117) % 2147483543 < 2147483543 := Int.emod_lt_of_pos _ (by omega)
    generalize hx : (b * 31177 + 8117) % 2147483543 = x at q1 q2
    have i1 : inL 31177 = true := by decide
    have i2 : inL x = true := inL_t q1 (by omega)
    refine ⟨(x * (x + 293)) % 2147483587 / 887 % k, [.int 0, .int x] :: rest, ⟨0, x, by omega, q1, by omega, rfl⟩, Int.emod_nonneg _ (by omega), Int.emod_lt_of_pos _ hk, ?_⟩
    simp [goP, rollS, x_k, x_loc, x_glo, x_bin, x_neg, x_not, x_and, x_or, x_cmp, x_cmp2, x_ite, x_nil, x_cons, x_tup, x_lst, x_ix, x_sl, x_call, x_bf, x_isi, x_rng, x_zip, x_zip3, x_enu, x_rng2, x_comp, x_dget, x_index, x_indexc, x_tell, s_skip, s_seq, s_ex, s_ret, s_asg, s_par, s_ite, s_for, thenS_next, thenS_ret, fin_ret, fin_next, ob_some, obl_bl, bnd_if, lft_if, unl, bnd_ok, bnd_no, lft_some, lft_none, truth, cmpop, item, vw, atI, asg, callB, binop, arith, hk, hk2, evS, D_non, D_bl, D_int, D_str, D_tup, D_lst, P_non, P_bl, P_int, P_str, P_tup, P_lst, P_nil, P_cons, eqM_d, isIn_t, isIn_l, i1, i2, hx]
theorem some_ {f g n : Nat} {rest : List (List PV)} {m : Mem} {l : List PV} (hf : pr.fns[f]? = some ⟨2, 4, rollS⟩) (hg : pr.fns[g]? = some ⟨2, 2, someS f⟩) (c : CupR rest m) (h1 : 1 ≤ l.length) (h2 : l.length ≤ 1000) : ∃ (x : PV) (m' : Mem), CupR rest m' ∧ x ∈ l ∧ run pr (n + 2) g [.cell 0, .lst l] m = .ok x m' := by
  obtain ⟨r, m', c', p1, p2, e⟩ := roll_ (n := n) (k := (l.length : Int)) hf c (by omega) (by omega)
  have hr : r.toNat < l.length := by omega
  refine ⟨l[r.toNat], m', c', List.getElem_mem hr, ?_⟩
  rw [run_go hg _ [_, _] _ rfl]
  simp [goP, someS, x_k, x_loc, x_glo, x_bin, x_neg, x_not, x_and, x_or, x_cmp, x_cmp2, x_ite, x_nil, x_cons, x_tup, x_lst, x_ix, x_sl, x_call, x_bf, x_isi, x_rng, x_zip, x_zip3, x_enu, x_rng2, x_comp, x_dget, x_index, x_indexc, x_tell, s_skip, s_seq, s_ex, s_ret, s_asg, s_par, s_ite, s_for, thenS_next, thenS_ret, fin_ret, fin_next, ob_some, obl_bl, bnd_if, lft_if, unl, bnd_ok, bnd_no, lft_some, lft_none, callB, vw, e, item, atI, p1, p2, hr]
theorem someT_ {f g n : Nat} {rest : List (List PV)} {m : Mem} {l : List PV} (hf : pr.fns[f]? = some ⟨2, 4, rollS⟩) (hg : pr.fns[g]? = some ⟨2, 2, someS f⟩) (c : CupR rest m) (h1 : 1 ≤ l.length) (h2 : l.length ≤ 1000) : ∃ (x : PV) (m' : Mem), CupR rest m' ∧ x ∈ l ∧ run pr (n + 2) g [.cell 0, .tup l] m = .ok x m' := by
  obtain ⟨r, m', c', p1, p2, e⟩ := roll_ (n := n) (k := (l.length : Int)) hf c (by omega) (by omega)
  have hr : r.toNat < l.length := by omega
  refine ⟨l[r.toNat], m', c', List.getElem_mem hr, ?_⟩
  rw [run_go hg _ [_, _] _ rfl]
  simp [goP, someS, x_k, x_loc, x_glo, x_bin, x_neg, x_not, x_and, x_or, x_cmp, x_cmp2, x_ite, x_nil, x_cons, x_tup, x_lst, x_ix, x_sl, x_call, x_bf, x_isi, x_rng, x_zip, x_zip3, x_enu, x_rng2, x_comp, x_dget, x_index, x_indexc, x_tell, s_skip, s_seq, s_ex, s_ret, s_asg, s_par, s_ite, s_for, thenS_next, thenS_ret, fin_ret, fin_next, ob_some, obl_bl, bnd_if, lft_if, unl, bnd_ok, bnd_no, lft_some, lft_none, callB, vw, e, item, atI, p1, p2, hr]
theorem cup_ {f n : Nat} (hf : pr.fns[f]? = some ⟨1, 2, cupS⟩) (ns : List Int) (h : ns.length ≤ 63) : ∃ m', CupM m' ∧ run pr (n + 1) f [.lst (ns.map .int)] [] = .ok (.cell 0) m' := by
  rw [run_go hf _ [_] _ rfl]
  have hD : ∀ x ∈ (ns.map PV.int), x.isD = true := by
    intro x hx
    obtain ⟨i, _, rfl⟩ := List.mem_map.mp hx
    rfl
  have hDe : (∀ (x : PV), x ∈ (ns.map PV.int) → x.isD = true) = True := eq_true hD
  obtain ⟨i, l, hl⟩ : ∃ (i : Int) (l : List PV), ns.map PV.int ++ [.int 0] = .int i :: l := by
    cases ns with
    | nil => exact ⟨0, [], rfl⟩
    | cons a ns => exact ⟨a, ns.map PV.int ++ [.int 0], rfl⟩
  generalize hls : ns.map PV.int = ls at hDe hl
  have hlen : ls.length ≤ 63 := by rw [← hls]; simpa using h
  have hb : ls.length + 1 ≤ big := by unfold big; omega
  have hD2 : (∀ (x : PV), x ∈ ls ++ [PV.int 0] → x.isD = true) = True := by
    refine eq_true fun x hx => ?_
    rcases List.mem_append.mp hx with hx | hx
    · exact (of_eq_true hDe) x hx
    · have : x = .int 0 := by simpa using hx
      subst this; rfl
  rw [hl] at hD2
  have i1 : inL 353 = true := by decide
  have q0 : 0 ≤ (if i < 0 then -i else i) := by split <;> omega
  generalize hz : (if i < 0 then -i else i) = z at q0
  have q1 : 0 ≤ (z * 353 + 2797) % 2077503023 := Int.emod_nonneg _ (by omega)
  have q2 : (z * 353 + 2797) % 2077503023 < 2077503023 := Int.emod_lt_of_pos _ (by omega)
  by_cases hbig : 1000000000000000000 ≤ z
  · refine ⟨[[.int (z / 127), .int ((z * 353 + 2797) % 2077503023 + 229)]], ⟨z / 127, _, Int.ediv_nonneg q0 (by omega), by omega, by omega, rfl⟩, ?_⟩
    simp [goP, cupS, x_k, x_loc, x_glo, x_bin, x_neg, x_not, x_and, x_or, x_cmp, x_cmp2, x_ite, x_nil, x_cons, x_tup, x_lst, x_ix, x_sl, x_call, x_bf, x_isi, x_rng, x_zip, x_zip3, x_enu, x_rng2, x_comp, x_dget, x_index, x_indexc, x_tell, s_skip, s_seq, s_ex, s_ret, s_asg, s_par, s_ite, s_for, thenS_next, thenS_ret, fin_ret, fin_next, ob_some, obl_bl, bnd_if, lft_if, unl, bnd_ok, bnd_no, lft_some, lft_none, callB, vw, mkl, hDe, binop, hb, hl, hD2, item, atI, arith, asg, i1, hz, hbig, cmpop, truth]
    rfl
  · refine ⟨[[.int 0, .int ((z * 353 + 2797) % 2077503023 + 229)]], ⟨0, _, by omega, by omega, by omega, rfl⟩, ?_⟩
    simp [goP, cupS, x_k, x_loc, x_glo, x_bin, x_neg, x_not, x_and, x_or, x_cmp, x_cmp2, x_ite, x_nil, x_cons, x_tup, x_lst, x_ix, x_sl, x_call, x_bf, x_isi, x_rng, x_zip, x_zip3, x_enu, x_rng2, x_comp, x_dget, x_index, x_indexc, x_tell, s_skip, s_seq, s_ex, s_ret, s_asg, s_par, s_ite, s_for, thenS_next, thenS_ret, fin_ret, fin_next, ob_some, obl_bl, bnd_if, lft_if, unl, bnd_ok, bnd_no, lft_some, lft_none, callB, vw, mkl, hDe, binop, hb, hl, hD2, item, atI, arith, asg, i1, hz, hbig, cmpop, truth]
    rfl
/-- a loop whose turns keep something -/
theorem for_inv {f : PV → Env → Mem → R (Fl × Env)} {I : Env → Mem → Prop} : ∀ (l : List PV) {ρ : Env} {m : Mem}, (∀ x ∈ l, ∀ ρ m, I ρ m → ∃ ρ' m', I ρ' m' ∧ f x ρ m = .ok (.next, ρ') m') → I ρ m → ∃ ρ' m', I ρ' m' ∧ forL f l ρ m = .ok (.next, ρ') m'
  | [], ρ, m, _, i => ⟨ρ, m, i, rfl⟩
  | x :: l, ρ, m, h, i => by
    obtain ⟨ρ1, m1, i1, e1⟩ := h x (by simp) ρ m i
    obtain ⟨ρ2, m2, i2, e2⟩ := for_inv l (fun y hy => h y (by simp [hy])) i1
    refine ⟨ρ2, m2, i2, ?_⟩
    unfold forL
    rw [e1]
    exact e2
/-- the law's def: the cup, then the rest -/
theorem law_skel {f fc nl n : Nat} {T : S} (hf : pr.fns[f]? = some ⟨1, nl + 2, .seq (.asg (.v 1) (.call fc (.cons (.loc 0) .nil))) T⟩) (hc : pr.fns[fc]? = some ⟨1, 2, cupS⟩) (ns : List Int) (h : ns.length ≤ 63)
    (ht : ∀ m, CupM m → ∃ m', bnd (evS pr.con (run pr (n + 1)) T (some (.lst (ns.map .int)) :: some (.cell 0) :: List.replicate nl none) m) fin = .ok (.bl true) m') : ∃ m, run pr (n + 2) f [.lst (ns.map .int)] [] = .ok (.bl true) m := by
  obtain ⟨m1, c1, e1⟩ := cup_ (pr := pr) (n := n) hc ns h
  obtain ⟨m2, e2⟩ := ht m1 c1
  refine ⟨m2, ?_⟩
  rw [run_go hf _ [_] _ rfl]
  have : nl + 2 - 1 = nl + 1 := by omega
  simp [goP, x_k, x_loc, x_glo, x_bin, x_neg, x_not, x_and, x_or, x_cmp, x_cmp2, x_ite, x_nil, x_cons, x_tup, x_lst, x_ix, x_sl, x_call, x_bf, x_isi, x_rng, x_zip, x_zip3, x_enu, x_rng2, x_comp, x_dget, x_index, x_indexc, x_tell, s_skip, s_seq, s_ex, s_ret, s_asg, s_par, s_ite, s_for, thenS_next, thenS_ret, fin_ret, fin_next, ob_some, obl_bl, bnd_if, lft_if, unl, bnd_ok, bnd_no, lft_some, lft_none, e1, asg, this, List.replicate_succ]
  exact e2
end
def S.hd : S → S
  | .seq a _ => a
  | s => s
def S.tl : S → S
  | .seq _ b => b
  | _ => .skip
def S.bod : S → S
  | .for_ _ _ b => b
  | s => s
end Pv
namespace Pv
-- is_whole(value, low, high): value low high
def S_is_whole : S := .ret (.and (.isi (.loc 0) .int) (.and (.not (.isi (.loc 0) .bool)) (.cmp2 .le .le (.loc 1) (.loc 0) (.loc 2))))
-- is_tuple_of(value, low, high): value low high
def S_is_tuple_of : S := .ret (.and (.isi (.loc 0) .tuple) (.cmp2 .le .le (.loc 1) (.bf false .len (.cons (.loc 0) (.nil))) (.loc 2)))
-- is_word_of(value, words): value words
def S_is_word_of : S := .ret (.and (.isi (.loc 0) .str) (.cmp .in_ (.loc 0) (.loc 1)))
-- is_headed(value, low, high): value low high
def S_is_headed (f_is_tuple_of : Nat) : S := .ret (.and (.call f_is_tuple_of (.cons (.loc 0) (.cons (.loc 1) (.cons (.loc 2) (.nil))))) (.isi (.ix (.loc 0) (.k (.int 0))) .str))
-- is_ascending(values): values low high
def S_is_ascending : S := .ret (.bf false .all (.cons (.comp false [1, 2] (.t (.cons (.v 1) (.cons (.v 2) (.nil)))) (.zip (.loc 0) (.sl (.loc 0) (.k (.int 1)) (.k .non))) (.k (.bl true)) (.cmp .lt (.loc 1) (.loc 2))) (.nil)))
-- need_number(value, low, high): value low high
def S_need_number (k_InvalidNumber f_is_whole : Nat) : S := .ite (.not (.call f_is_whole (.cons (.loc 0) (.cons (.loc 1) (.cons (.loc 2) (.nil)))))) (.raise k_InvalidNumber) (.skip)
structure ShLib (pr : Prg) where
  InvalidNumber : Nat
  is_whole : Nat
  is_tuple_of : Nat
  is_word_of : Nat
  is_headed : Nat
  is_ascending : Nat
  need_number : Nat
  h_is_whole : pr.fns[is_whole]? = some ⟨3, 3, S_is_whole ⟩
  h_is_tuple_of : pr.fns[is_tuple_of]? = some ⟨3, 3, S_is_tuple_of ⟩
  h_is_word_of : pr.fns[is_word_of]? = some ⟨2, 2, S_is_word_of ⟩
  h_is_headed : pr.fns[is_headed]? = some ⟨3, 3, S_is_headed is_tuple_of⟩
  h_is_ascending : pr.fns[is_ascending]? = some ⟨1, 3, S_is_ascending ⟩
  h_need_number : pr.fns[need_number]? = some ⟨3, 3, S_need_number InvalidNumber is_whole⟩
section
variable {pr : Prg} (L : ShLib pr)
theorem ShLib.r_is_whole (n : Nat) (a b c : PV) (m : Mem) : run pr (n + 1) L.is_whole [a, b, c] m = goP pr (S_is_whole ) 3 3 n [a, b, c] m := run_go L.h_is_whole _ _ _ rfl
theorem ShLib.r_is_tuple_of (n : Nat) (a b c : PV) (m : Mem) : run pr (n + 1) L.is_tuple_of [a, b, c] m = goP pr (S_is_tuple_of ) 3 3 n [a, b, c] m := run_go L.h_is_tuple_of _ _ _ rfl
theorem ShLib.r_is_word_of (n : Nat) (a b : PV) (m : Mem) : run pr (n + 1) L.is_word_of [a, b] m = goP pr (S_is_word_of ) 2 2 n [a, b] m := run_go L.h_is_word_of _ _ _ rfl
theorem ShLib.r_is_headed (n : Nat) (a b c : PV) (m : Mem) : run pr (n + 1) L.is_headed [a, b, c] m = goP pr (S_is_headed L.is_tuple_of) 3 3 n [a, b, c] m := run_go L.h_is_headed _ _ _ rfl
theorem ShLib.r_is_ascending (n : Nat) (a : PV) (m : Mem) : run pr (n + 1) L.is_ascending [a] m = goP pr (S_is_ascending ) 1 3 n [a] m := run_go L.h_is_ascending _ _ _ rfl
theorem ShLib.r_need_number (n : Nat) (a b c : PV) (m : Mem) : run pr (n + 1) L.need_number [a, b, c] m = goP pr (S_need_number L.InvalidNumber L.is_whole) 3 3 n [a, b, c] m := run_go L.h_need_number _ _ _ rfl
end
-- is_field_test(value): value
def S_is_field_test (f_is_word_of f_is_whole c_FIELDS c_HIGH : Nat) : S := .seq (.ite (.or (.cmp .ne (.bf false .len (.cons (.loc 0) (.nil))) (.k (.int 4))) (.or (.not (.call f_is_word_of (.cons (.ix (.loc 0) (.k (.int 1))) (.cons (.glo c_FIELDS) (.nil))))) (.not (.call f_is_whole (.cons (.ix (.loc 0) (.k (.int 2))) (.cons (.k (.int 0)) (.cons (.glo c_HIGH) (.nil)))))))) (.ret (.k (.bl false))) (.skip)) (.ret (.call f_is_whole (.cons (.ix (.loc 0) (.k (.int 3))) (.cons (.ix (.loc 0) (.k (.int 2))) (.cons (.glo c_HIGH) (.nil))))))
-- test_left(value, high, many): value high many sort rest part
def S_test_left (f_is_headed f_is_field_test f_is_whole f_test_left c_PORTS : Nat) : S := .seq (.ite (.or (.cmp .eq (.loc 1) (.k (.int 0))) (.or (.cmp .eq (.loc 2) (.k (.int 0))) (.not (.call f_is_headed (.cons (.loc 0) (.cons (.k (.int 1)) (.cons (.k (.int 4)) (.nil)))))))) (.ret (.neg (.k (.int 1)))) (.skip)) (.seq (.par (.t (.cons (.v 3) (.cons (.v 4) (.nil)))) (.cons (.ix (.loc 0) (.k (.int 0))) (.cons (.bin false .sub (.loc 2) (.k (.int 1))) (.nil)))) (.seq (.ite (.or (.and (.cmp .eq (.loc 3) (.k (.str [97, 110, 121]))) (.cmp .eq (.bf false .len (.cons (.loc 0) (.nil))) (.k (.int 1)))) (.and (.cmp .eq (.loc 3) (.k (.str [102, 105, 101, 108, 100]))) (.call f_is_field_test (.cons (.loc 0) (.nil))))) (.ret (.loc 4)) (.skip)) (.seq (.ite (.and (.cmp .eq (.loc 3) (.k (.str [105, 110]))) (.and (.cmp .eq (.bf false .len (.cons (.loc 0) (.nil))) (.k (.int 2))) (.call f_is_whole (.cons (.ix (.loc 0) (.k (.int 1))) (.cons (.k (.int 0)) (.cons (.bin false .sub (.glo c_PORTS) (.k (.int 1))) (.nil))))))) (.ret (.loc 4)) (.skip)) (.seq (.ite (.not (.or (.and (.cmp .eq (.loc 3) (.k (.str [110, 111, 116]))) (.cmp .eq (.bf false .len (.cons (.loc 0) (.nil))) (.k (.int 2)))) (.and (.cmp .in_ (.loc 3) (.tup (.cons (.k (.str [97, 110, 100])) (.cons (.k (.str [111, 114])) (.nil))))) (.cmp .eq (.bf false .len (.cons (.loc 0) (.nil))) (.k (.int 3)))))) (.ret (.neg (.k (.int 1)))) (.skip)) (.seq (.for_ (.v 5) (.sl (.loc 0) (.k (.int 1)) (.k .non)) (.asg (.v 4) (.ite (.cmp .ge (.loc 4) (.k (.int 0))) (.call f_test_left (.cons (.loc 5) (.cons (.bin false .sub (.loc 1) (.k (.int 1))) (.cons (.loc 4) (.nil))))) (.neg (.k (.int 1)))))) (.ret (.loc 4)))))))
structure TestLib (pr : Prg) extends ShLib pr where
  FIELDS : Nat
  HIGH : Nat
  PORTS : Nat
  is_field_test : Nat
  test_left : Nat
  h_FIELDS : pr.con[FIELDS]? = some (.tup [.str [102, 114, 111, 109], .str [116, 111], .str [109, 97, 114, 107]])
  h_HIGH : pr.con[HIGH]? = some (.int 3)
  h_PORTS : pr.con[PORTS]? = some (.int 4)
  h_is_field_test : pr.fns[is_field_test]? = some ⟨1, 1, S_is_field_test is_word_of is_whole FIELDS HIGH⟩
  h_test_left : pr.fns[test_left]? = some ⟨3, 6, S_test_left is_headed is_field_test is_whole test_left PORTS⟩
section
variable {pr : Prg} (L : TestLib pr)
theorem TestLib.r_is_field_test (n : Nat) (a : PV) (m : Mem) : run pr (n + 1) L.is_field_test [a] m = goP pr (S_is_field_test L.is_word_of L.is_whole L.FIELDS L.HIGH) 1 1 n [a] m := run_go L.h_is_field_test _ _ _ rfl
theorem TestLib.r_test_left (n : Nat) (a b c : PV) (m : Mem) : run pr (n + 1) L.test_left [a, b, c] m = goP pr (S_test_left L.is_headed L.is_field_test L.is_whole L.test_left L.PORTS) 3 6 n [a, b, c] m := run_go L.h_test_left _ _ _ rfl
end
-- is_leaf(value): value
def S_is_leaf (f_is_whole f_is_word_of c_PORTS c_FIELDS c_HIGH : Nat) : S := .seq (.ite (.cmp .in_ (.ix (.loc 0) (.k (.int 0))) (.tup (.cons (.k (.str [100, 114, 111, 112])) (.cons (.k (.str [112, 97, 115, 115])) (.nil))))) (.ret (.cmp .eq (.bf false .len (.cons (.loc 0) (.nil))) (.k (.int 1)))) (.skip)) (.seq (.ite (.cmp .eq (.ix (.loc 0) (.k (.int 0))) (.k (.str [111, 117, 116]))) (.ret (.and (.cmp .eq (.bf false .len (.cons (.loc 0) (.nil))) (.k (.int 2))) (.call f_is_whole (.cons (.ix (.loc 0) (.k (.int 1))) (.cons (.k (.int 0)) (.cons (.bin false .sub (.glo c_PORTS) (.k (.int 1))) (.nil))))))) (.skip)) (.ret (.and (.cmp .eq (.ix (.loc 0) (.k (.int 0))) (.k (.str [115, 101, 116]))) (.and (.cmp .eq (.bf false .len (.cons (.loc 0) (.nil))) (.k (.int 3))) (.and (.call f_is_word_of (.cons (.ix (.loc 0) (.k (.int 1))) (.cons (.glo c_FIELDS) (.nil)))) (.call f_is_whole (.cons (.ix (.loc 0) (.k (.int 2))) (.cons (.k (.int 0)) (.cons (.glo c_HIGH) (.nil))))))))))
-- are_switches(value): value own
def S_are_switches (f_is_tuple_of f_is_whole f_is_ascending c_SWITCHES : Nat) : S := .seq (.ite (.or (.not (.call f_is_tuple_of (.cons (.loc 0) (.cons (.k (.int 1)) (.cons (.glo c_SWITCHES) (.nil)))))) (.not (.bf false .all (.cons (.comp false [1] (.v 1) (.loc 0) (.k (.bl true)) (.call f_is_whole (.cons (.loc 1) (.cons (.k (.int 0)) (.cons (.bin false .sub (.glo c_SWITCHES) (.k (.int 1))) (.nil)))))) (.nil))))) (.ret (.k (.bl false))) (.skip)) (.ret (.call f_is_ascending (.cons (.loc 0) (.nil))))
-- parts_in(value): value sort many
def S_parts_in (f_are_switches : Nat) : S := .seq (.par (.t (.cons (.v 1) (.cons (.v 2) (.nil)))) (.cons (.ix (.loc 0) (.k (.int 0))) (.cons (.bf false .len (.cons (.loc 0) (.nil))) (.nil)))) (.seq (.ite (.and (.cmp .in_ (.loc 1) (.tup (.cons (.k (.str [98, 111, 116, 104])) (.cons (.k (.str [116, 104, 101, 110])) (.nil))))) (.cmp .eq (.loc 2) (.k (.int 3)))) (.ret (.sl (.loc 0) (.k (.int 1)) (.k .non))) (.skip)) (.seq (.ite (.and (.cmp .eq (.loc 1) (.k (.str [105, 102]))) (.cmp .eq (.loc 2) (.k (.int 4)))) (.ret (.sl (.loc 0) (.k (.int 2)) (.k .non))) (.skip)) (.ret (.ite (.and (.cmp .eq (.loc 1) (.k (.str [97, 116]))) (.and (.cmp .eq (.loc 2) (.k (.int 3))) (.call f_are_switches (.cons (.ix (.loc 0) (.k (.int 1))) (.nil))))) (.sl (.loc 0) (.k (.int 2)) (.k .non)) (.k (.non))))))
-- policy_left(value, high, many): value high many rest parts part
def S_policy_left (f_is_headed f_is_leaf f_parts_in f_test_left f_policy_left : Nat) : S := .seq (.ite (.or (.cmp .eq (.loc 1) (.k (.int 0))) (.or (.cmp .eq (.loc 2) (.k (.int 0))) (.not (.call f_is_headed (.cons (.loc 0) (.cons (.k (.int 1)) (.cons (.k (.int 4)) (.nil)))))))) (.ret (.neg (.k (.int 1)))) (.skip)) (.seq (.asg (.v 3) (.bin false .sub (.loc 2) (.k (.int 1)))) (.seq (.ite (.call f_is_leaf (.cons (.loc 0) (.nil))) (.ret (.loc 3)) (.skip)) (.seq (.asg (.v 4) (.call f_parts_in (.cons (.loc 0) (.nil)))) (.seq (.ite (.cmp .is_ (.loc 4) (.k (.non))) (.ret (.neg (.k (.int 1)))) (.skip)) (.seq (.ite (.cmp .eq (.ix (.loc 0) (.k (.int 0))) (.k (.str [105, 102]))) (.asg (.v 3) (.call f_test_left (.cons (.ix (.loc 0) (.k (.int 1))) (.cons (.bin false .sub (.loc 1) (.k (.int 1))) (.cons (.loc 3) (.nil)))))) (.skip)) (.seq (.for_ (.v 5) (.loc 4) (.asg (.v 3) (.ite (.cmp .ge (.loc 3) (.k (.int 0))) (.call f_policy_left (.cons (.loc 5) (.cons (.bin false .sub (.loc 1) (.k (.int 1))) (.cons (.loc 3) (.nil))))) (.neg (.k (.int 1)))))) (.ret (.loc 3))))))))
-- fits_test(value): value
def S_fits_test (f_test_left c_HEIGHT c_NODES : Nat) : S := .ret (.cmp .ge (.call f_test_left (.cons (.loc 0) (.cons (.glo c_HEIGHT) (.cons (.glo c_NODES) (.nil))))) (.k (.int 0)))
-- fits_policy(value): value
def S_fits_policy (f_policy_left c_HEIGHT c_NODES : Nat) : S := .ret (.cmp .ge (.call f_policy_left (.cons (.loc 0) (.cons (.glo c_HEIGHT) (.cons (.glo c_NODES) (.nil))))) (.k (.int 0)))
-- need_test(value): value
def S_need_test (k_InvalidTest f_fits_test : Nat) : S := .ite (.not (.call f_fits_test (.cons (.loc 0) (.nil)))) (.raise k_InvalidTest) (.skip)
-- need_policy(value): value
def S_need_policy (k_InvalidPolicy f_fits_policy : Nat) : S := .ite (.not (.call f_fits_policy (.cons (.loc 0) (.nil)))) (.raise k_InvalidPolicy) (.skip)
structure PolLib (pr : Prg) extends TestLib pr where
  SWITCHES : Nat
  HEIGHT : Nat
  NODES : Nat
  InvalidTest : Nat
  InvalidPolicy : Nat
  is_leaf : Nat
  are_switches : Nat
  parts_in : Nat
  policy_left : Nat
  fits_test : Nat
  fits_policy : Nat
  need_test : Nat
  need_policy : Nat
  h_SWITCHES : pr.con[SWITCHES]? = some (.int 4)
  h_HEIGHT : pr.con[HEIGHT]? = some (.int 12)
  h_NODES : pr.con[NODES]? = some (.int 60)
  h_is_leaf : pr.fns[is_leaf]? = some ⟨1, 1, S_is_leaf is_whole is_word_of PORTS FIELDS HIGH⟩
  h_are_switches : pr.fns[are_switches]? = some ⟨1, 2, S_are_switches is_tuple_of is_whole is_ascending SWITCHES⟩
  h_parts_in : pr.fns[parts_in]? = some ⟨1, 3, S_parts_in are_switches⟩
  h_policy_left : pr.fns[policy_left]? = some ⟨3, 6, S_policy_left is_headed is_leaf parts_in test_left policy_left⟩
  h_fits_test : pr.fns[fits_test]? = some ⟨1, 1, S_fits_test test_left HEIGHT NODES⟩
  h_fits_policy : pr.fns[fits_policy]? = some ⟨1, 1, S_fits_policy policy_left HEIGHT NODES⟩
  h_need_test : pr.fns[need_test]? = some ⟨1, 1, S_need_test InvalidTest fits_test⟩
  h_need_policy : pr.fns[need_policy]? = some ⟨1, 1, S_need_policy InvalidPolicy fits_policy⟩
section
variable {pr : Prg} (L : PolLib pr)
theorem PolLib.r_is_leaf (n : Nat) (a : PV) (m : Mem) : run pr (n + 1) L.is_leaf [a] m = goP pr (S_is_leaf L.is_whole L.is_word_of L.PORTS L.FIELDS L.HIGH) 1 1 n [a] m := run_go L.h_is_leaf _ _ _ rfl
theorem PolLib.r_are_switches (n : Nat) (a : PV) (m : Mem) : run pr (n + 1) L.are_switches [a] m = goP pr (S_are_switches L.is_tuple_of L.is_whole L.is_ascending L.SWITCHES) 1 2 n [a] m := run_go L.h_are_switches _ _ _ rfl
theorem PolLib.r_parts_in (n : Nat) (a : PV) (m : Mem) : run pr (n + 1) L.parts_in [a] m = goP pr (S_parts_in L.are_switches) 1 3 n [a] m := run_go L.h_parts_in _ _ _ rfl
theorem PolLib.r_policy_left (n : Nat) (a b c : PV) (m : Mem) : run pr (n + 1) L.policy_left [a, b, c] m = goP pr (S_policy_left L.is_headed L.is_leaf L.parts_in L.test_left L.policy_left) 3 6 n [a, b, c] m := run_go L.h_policy_left _ _ _ rfl
theorem PolLib.r_fits_test (n : Nat) (a : PV) (m : Mem) : run pr (n + 1) L.fits_test [a] m = goP pr (S_fits_test L.test_left L.HEIGHT L.NODES) 1 1 n [a] m := run_go L.h_fits_test _ _ _ rfl
theorem PolLib.r_fits_policy (n : Nat) (a : PV) (m : Mem) : run pr (n + 1) L.fits_policy [a] m = goP pr (S_fits_policy L.policy_left L.HEIGHT L.NODES) 1 1 n [a] m := run_go L.h_fits_policy _ _ _ rfl
theorem PolLib.r_need_test (n : Nat) (a : PV) (m : Mem) : run pr (n + 1) L.need_test [a] m = goP pr (S_need_test L.InvalidTest L.fits_test) 1 1 n [a] m := run_go L.h_need_test _ _ _ rfl
theorem PolLib.r_need_policy (n : Nat) (a : PV) (m : Mem) : run pr (n + 1) L.need_policy [a] m = goP pr (S_need_policy L.InvalidPolicy L.fits_policy) 1 1 n [a] m := run_go L.h_need_policy _ _ _ rfl
end
-- header_in(row): row
def S_header_in : S := .ret (.tup (.cons (.bin false .mod (.bin false .fdiv (.loc 0) (.k (.int 16))) (.k (.int 4))) (.cons (.bin false .mod (.bin false .fdiv (.loc 0) (.k (.int 4))) (.k (.int 4))) (.cons (.bin false .mod (.loc 0) (.k (.int 4))) (.nil)))))
-- port_in(row): row
def S_port_in : S := .ret (.bin false .fdiv (.loc 0) (.k (.int 64)))
-- laid_on(header, fields): header fields own one
def S_laid_on (c_NOT : Nat) : S := .ret (.bf false .tuple (.cons (.comp false [2, 3] (.t (.cons (.v 2) (.cons (.v 3) (.nil)))) (.zip (.loc 0) (.loc 1)) (.k (.bl true)) (.ite (.cmp .eq (.loc 3) (.glo c_NOT)) (.loc 2) (.loc 3))) (.nil)))
structure RowLib (pr : Prg) where
  NOT : Nat
  header_in : Nat
  port_in : Nat
  laid_on : Nat
  h_NOT : pr.con[NOT]? = some (.int (-1))
  h_header_in : pr.fns[header_in]? = some ⟨1, 1, S_header_in ⟩
  h_port_in : pr.fns[port_in]? = some ⟨1, 1, S_port_in ⟩
  h_laid_on : pr.fns[laid_on]? = some ⟨2, 4, S_laid_on NOT⟩
section
variable {pr : Prg} (L : RowLib pr)
theorem RowLib.r_header_in (n : Nat) (a : PV) (m : Mem) : run pr (n + 1) L.header_in [a] m = goP pr (S_header_in ) 1 1 n [a] m := run_go L.h_header_in _ _ _ rfl
theorem RowLib.r_port_in (n : Nat) (a : PV) (m : Mem) : run pr (n + 1) L.port_in [a] m = goP pr (S_port_in ) 1 1 n [a] m := run_go L.h_port_in _ _ _ rfl
theorem RowLib.r_laid_on (n : Nat) (a b : PV) (m : Mem) : run pr (n + 1) L.laid_on [a, b] m = goP pr (S_laid_on L.NOT) 2 4 n [a, b] m := run_go L.h_laid_on _ _ _ rfl
end
-- passes_in(test, header, port): test header port sort one other
def S_passes_in (f_passes_in c_FIELDS : Nat) : S := .seq (.asg (.v 3) (.ix (.loc 0) (.k (.int 0)))) (.seq (.ite (.cmp .eq (.loc 3) (.k (.str [97, 110, 121]))) (.ret (.k (.bl true))) (.skip)) (.seq (.ite (.cmp .eq (.loc 3) (.k (.str [102, 105, 101, 108, 100]))) (.ret (.cmp2 .le .le (.ix (.loc 0) (.k (.int 2))) (.ix (.loc 1) (.indexc c_FIELDS (.ix (.loc 0) (.k (.int 1))))) (.ix (.loc 0) (.k (.int 3))))) (.skip)) (.seq (.ite (.cmp .eq (.loc 3) (.k (.str [105, 110]))) (.ret (.cmp .eq (.loc 2) (.ix (.loc 0) (.k (.int 1))))) (.skip)) (.seq (.ite (.cmp .eq (.loc 3) (.k (.str [110, 111, 116]))) (.ret (.not (.call f_passes_in (.cons (.ix (.loc 0) (.k (.int 1))) (.cons (.loc 1) (.cons (.loc 2) (.nil))))))) (.skip)) (.seq (.asg (.v 4) (.call f_passes_in (.cons (.ix (.loc 0) (.k (.int 1))) (.cons (.loc 1) (.cons (.loc 2) (.nil)))))) (.seq (.asg (.v 5) (.call f_passes_in (.cons (.ix (.loc 0) (.k (.int 2))) (.cons (.loc 1) (.cons (.loc 2) (.nil)))))) (.ret (.ite (.cmp .eq (.loc 3) (.k (.str [97, 110, 100]))) (.and (.loc 4) (.loc 5)) (.or (.loc 4) (.loc 5))))))))))
-- put(triple, at, value): triple at value
def S_put : S := .ret (.bin false .add (.bin false .add (.sl (.loc 0) (.k .non) (.loc 1)) (.tup (.cons (.loc 2) (.nil)))) (.sl (.loc 0) (.bin false .add (.loc 1) (.k (.int 1))) (.k .non)))
-- united(lots): lots found lot own
def S_united : S := .seq (.asg (.v 1) (.lst false (.nil))) (.seq (.for_ (.v 2) (.loc 0) (.asg (.v 1) (.bin false .add (.loc 1) (.comp false [3] (.v 3) (.loc 2) (.cmp .notin (.loc 3) (.loc 1)) (.loc 3))))) (.ret (.loc 1)))
-- cards_by(policy, switch, header, port, card): policy switch header port card sort made part own
def S_cards_by (f_put f_cards_by f_united f_passes_in f_laid_on c_FIELDS : Nat) : S := .seq (.asg (.v 5) (.ix (.loc 0) (.k (.int 0)))) (.seq (.ite (.cmp .eq (.loc 5) (.k (.str [100, 114, 111, 112]))) (.ret (.lst false (.nil))) (.skip)) (.seq (.ite (.cmp .eq (.loc 5) (.k (.str [112, 97, 115, 115]))) (.ret (.lst false (.cons (.loc 4) (.nil)))) (.skip)) (.seq (.ite (.cmp .eq (.loc 5) (.k (.str [115, 101, 116]))) (.ret (.lst false (.cons (.tup (.cons (.call f_put (.cons (.ix (.loc 4) (.k (.int 0))) (.cons (.indexc c_FIELDS (.ix (.loc 0) (.k (.int 1)))) (.cons (.ix (.loc 0) (.k (.int 2))) (.nil))))) (.cons (.ix (.loc 4) (.k (.int 1))) (.nil)))) (.nil)))) (.skip)) (.seq (.ite (.cmp .eq (.loc 5) (.k (.str [111, 117, 116]))) (.ret (.lst false (.cons (.tup (.cons (.ix (.loc 4) (.k (.int 0))) (.cons (.ix (.loc 0) (.k (.int 1))) (.nil)))) (.nil)))) (.skip)) (.seq (.ite (.cmp .eq (.loc 5) (.k (.str [116, 104, 101, 110]))) (.seq (.asg (.v 6) (.call f_cards_by (.cons (.ix (.loc 0) (.k (.int 1))) (.cons (.loc 1) (.cons (.loc 2) (.cons (.loc 3) (.cons (.loc 4) (.nil)))))))) (.ret (.call f_united (.cons (.comp false [8] (.v 8) (.loc 6) (.k (.bl true)) (.call f_cards_by (.cons (.ix (.loc 0) (.k (.int 2))) (.cons (.loc 1) (.cons (.loc 2) (.cons (.loc 3) (.cons (.loc 8) (.nil)))))))) (.nil))))) (.skip)) (.seq (.ite (.cmp .eq (.loc 5) (.k (.str [98, 111, 116, 104]))) (.ret (.call f_united (.cons (.comp false [7] (.v 7) (.sl (.loc 0) (.k (.int 1)) (.k .non)) (.k (.bl true)) (.call f_cards_by (.cons (.loc 7) (.cons (.loc 1) (.cons (.loc 2) (.cons (.loc 3) (.cons (.loc 4) (.nil)))))))) (.nil)))) (.skip)) (.seq (.ite (.cmp .eq (.loc 5) (.k (.str [97, 116]))) (.ret (.ite (.cmp .in_ (.loc 1) (.ix (.loc 0) (.k (.int 1)))) (.call f_cards_by (.cons (.ix (.loc 0) (.k (.int 2))) (.cons (.loc 1) (.cons (.loc 2) (.cons (.loc 3) (.cons (.loc 4) (.nil))))))) (.lst false (.nil)))) (.skip)) (.seq (.asg (.v 7) (.ite (.call f_passes_in (.cons (.ix (.loc 0) (.k (.int 1))) (.cons (.call f_laid_on (.cons (.loc 2) (.cons (.ix (.loc 4) (.k (.int 0))) (.nil)))) (.cons (.loc 3) (.nil))))) (.ix (.loc 0) (.k (.int 2))) (.ix (.loc 0) (.k (.int 3))))) (.ret (.call f_cards_by (.cons (.loc 7) (.cons (.loc 1) (.cons (.loc 2) (.cons (.loc 3) (.cons (.loc 4) (.nil))))))))))))))))
-- actions_in(policy, switch, row): policy switch row made fields port
def S_actions_in (f_cards_by f_header_in f_port_in c_PLAIN c_NOT : Nat) : S := .seq (.asg (.v 3) (.call f_cards_by (.cons (.loc 0) (.cons (.loc 1) (.cons (.call f_header_in (.cons (.loc 2) (.nil))) (.cons (.call f_port_in (.cons (.loc 2) (.nil))) (.cons (.tup (.cons (.glo c_PLAIN) (.cons (.glo c_NOT) (.nil)))) (.nil)))))))) (.ret (.bf false .tuple (.cons (.bf false .sorted (.cons (.comp false [4, 5] (.t (.cons (.v 4) (.cons (.v 5) (.nil)))) (.loc 3) (.cmp .ne (.loc 5) (.glo c_NOT)) (.bin false .add (.tup (.cons (.loc 5) (.nil))) (.loc 4))) (.nil))) (.nil))))
structure MeanLib (pr : Prg) extends RowLib pr where
  FIELDS : Nat
  PLAIN : Nat
  passes_in : Nat
  put : Nat
  united : Nat
  cards_by : Nat
  actions_in : Nat
  h_FIELDS : pr.con[FIELDS]? = some (.tup [.str [102, 114, 111, 109], .str [116, 111], .str [109, 97, 114, 107]])
  h_PLAIN : pr.con[PLAIN]? = some (.tup [.int (-1), .int (-1), .int (-1)])
  h_passes_in : pr.fns[passes_in]? = some ⟨3, 6, S_passes_in passes_in FIELDS⟩
  h_put : pr.fns[put]? = some ⟨3, 3, S_put ⟩
  h_united : pr.fns[united]? = some ⟨1, 4, S_united ⟩
  h_cards_by : pr.fns[cards_by]? = some ⟨5, 9, S_cards_by put cards_by united passes_in laid_on FIELDS⟩
  h_actions_in : pr.fns[actions_in]? = some ⟨3, 6, S_actions_in cards_by header_in port_in PLAIN NOT⟩
section
variable {pr : Prg} (L : MeanLib pr)
theorem MeanLib.r_passes_in (n : Nat) (a b c : PV) (m : Mem) : run pr (n + 1) L.passes_in [a, b, c] m = goP pr (S_passes_in L.passes_in L.FIELDS) 3 6 n [a, b, c] m := run_go L.h_passes_in _ _ _ rfl
theorem MeanLib.r_put (n : Nat) (a b c : PV) (m : Mem) : run pr (n + 1) L.put [a, b, c] m = goP pr (S_put ) 3 3 n [a, b, c] m := run_go L.h_put _ _ _ rfl
theorem MeanLib.r_united (n : Nat) (a : PV) (m : Mem) : run pr (n + 1) L.united [a] m = goP pr (S_united ) 1 4 n [a] m := run_go L.h_united _ _ _ rfl
theorem MeanLib.r_cards_by (n : Nat) (a b c d e : PV) (m : Mem) : run pr (n + 1) L.cards_by [a, b, c, d, e] m = goP pr (S_cards_by L.put L.cards_by L.united L.passes_in L.laid_on L.FIELDS) 5 9 n [a, b, c, d, e] m := run_go L.h_cards_by _ _ _ rfl
theorem MeanLib.r_actions_in (n : Nat) (a b c : PV) (m : Mem) : run pr (n + 1) L.actions_in [a, b, c] m = goP pr (S_actions_in L.cards_by L.header_in L.port_in L.PLAIN L.NOT) 3 6 n [a, b, c] m := run_go L.h_actions_in _ _ _ rfl
end
-- _law_some(cup, things): cup things
def S_law_some (f_law_roll : Nat) : S := .ret (.ix (.loc 1) (.call f_law_roll (.cons (.loc 0) (.cons (.bf false .len (.cons (.loc 1) (.nil))) (.nil)))))
-- _law_test(cup, deep, ports): cup deep ports way low
def S_law_test (f_law_roll f_law_some f_law_test : Nat) : S := .seq (.asg (.v 3) (.ite (.cmp .gt (.loc 1) (.k (.int 0))) (.call f_law_roll (.cons (.loc 0) (.cons (.k (.int 8)) (.nil)))) (.call f_law_roll (.cons (.loc 0) (.cons (.k (.int 5)) (.nil)))))) (.seq (.ite (.cmp .lt (.loc 3) (.k (.int 4))) (.seq (.asg (.v 4) (.call f_law_roll (.cons (.loc 0) (.cons (.k (.int 4)) (.nil))))) (.ret (.tup (.cons (.k (.str [102, 105, 101, 108, 100])) (.cons (.call f_law_some (.cons (.loc 0) (.cons (.lst false (.cons (.k (.str [102, 114, 111, 109])) (.cons (.k (.str [116, 111])) (.cons (.k (.str [109, 97, 114, 107])) (.nil))))) (.nil)))) (.cons (.loc 4) (.cons (.bin false .add (.loc 4) (.call f_law_roll (.cons (.loc 0) (.cons (.bin false .sub (.k (.int 4)) (.loc 4)) (.nil))))) (.nil)))))))) (.skip)) (.seq (.ite (.cmp .eq (.loc 3) (.k (.int 4))) (.ret (.ite (.loc 2) (.tup (.cons (.k (.str [105, 110])) (.cons (.call f_law_roll (.cons (.loc 0) (.cons (.k (.int 4)) (.nil)))) (.nil)))) (.tup (.cons (.k (.str [97, 110, 121])) (.nil))))) (.skip)) (.seq (.ite (.cmp .eq (.loc 3) (.k (.int 5))) (.ret (.tup (.cons (.k (.str [110, 111, 116])) (.cons (.call f_law_test (.cons (.loc 0) (.cons (.bin false .sub (.loc 1) (.k (.int 1))) (.cons (.loc 2) (.nil))))) (.nil))))) (.skip)) (.ret (.tup (.cons (.call f_law_some (.cons (.loc 0) (.cons (.lst false (.cons (.k (.str [97, 110, 100])) (.cons (.k (.str [111, 114])) (.nil)))) (.nil)))) (.cons (.call f_law_test (.cons (.loc 0) (.cons (.bin false .sub (.loc 1) (.k (.int 1))) (.cons (.loc 2) (.nil))))) (.cons (.call f_law_test (.cons (.loc 0) (.cons (.bin false .sub (.loc 1) (.k (.int 1))) (.cons (.loc 2) (.nil))))) (.nil)))))))))
-- _law_policy(cup, deep): cup deep way
def S_law_policy (f_law_roll f_law_some f_law_policy f_law_test : Nat) : S := .seq (.asg (.v 2) (.ite (.cmp .gt (.loc 1) (.k (.int 0))) (.call f_law_roll (.cons (.loc 0) (.cons (.k (.int 9)) (.nil)))) (.call f_law_roll (.cons (.loc 0) (.cons (.k (.int 4)) (.nil)))))) (.seq (.ite (.cmp .eq (.loc 2) (.k (.int 0))) (.ret (.call f_law_some (.cons (.loc 0) (.cons (.lst false (.cons (.tup (.cons (.k (.str [100, 114, 111, 112])) (.nil))) (.cons (.tup (.cons (.k (.str [112, 97, 115, 115])) (.nil))) (.cons (.tup (.cons (.k (.str [112, 97, 115, 115])) (.nil))) (.nil))))) (.nil))))) (.skip)) (.seq (.ite (.cmp .eq (.loc 2) (.k (.int 1))) (.ret (.tup (.cons (.k (.str [115, 101, 116])) (.cons (.call f_law_some (.cons (.loc 0) (.cons (.lst false (.cons (.k (.str [102, 114, 111, 109])) (.cons (.k (.str [116, 111])) (.cons (.k (.str [109, 97, 114, 107])) (.nil))))) (.nil)))) (.cons (.call f_law_roll (.cons (.loc 0) (.cons (.k (.int 4)) (.nil)))) (.nil)))))) (.skip)) (.seq (.ite (.cmp .lt (.loc 2) (.k (.int 4))) (.ret (.tup (.cons (.k (.str [111, 117, 116])) (.cons (.call f_law_roll (.cons (.loc 0) (.cons (.k (.int 4)) (.nil)))) (.nil))))) (.skip)) (.seq (.ite (.cmp .lt (.loc 2) (.k (.int 6))) (.ret (.tup (.cons (.k (.str [116, 104, 101, 110])) (.cons (.call f_law_policy (.cons (.loc 0) (.cons (.bin false .sub (.loc 1) (.k (.int 1))) (.nil)))) (.cons (.call f_law_policy (.cons (.loc 0) (.cons (.bin false .sub (.loc 1) (.k (.int 1))) (.nil)))) (.nil)))))) (.skip)) (.seq (.ite (.cmp .eq (.loc 2) (.k (.int 6))) (.ret (.tup (.cons (.k (.str [98, 111, 116, 104])) (.cons (.call f_law_policy (.cons (.loc 0) (.cons (.bin false .sub (.loc 1) (.k (.int 1))) (.nil)))) (.cons (.call f_law_policy (.cons (.loc 0) (.cons (.bin false .sub (.loc 1) (.k (.int 1))) (.nil)))) (.nil)))))) (.skip)) (.seq (.ite (.cmp .eq (.loc 2) (.k (.int 7))) (.ret (.tup (.cons (.k (.str [105, 102])) (.cons (.call f_law_test (.cons (.loc 0) (.cons (.k (.int 1)) (.cons (.k (.bl true)) (.nil))))) (.cons (.call f_law_policy (.cons (.loc 0) (.cons (.bin false .sub (.loc 1) (.k (.int 1))) (.nil)))) (.cons (.call f_law_policy (.cons (.loc 0) (.cons (.bin false .sub (.loc 1) (.k (.int 1))) (.nil)))) (.nil))))))) (.skip)) (.ret (.tup (.cons (.k (.str [97, 116])) (.cons (.call f_law_some (.cons (.loc 0) (.cons (.lst false (.cons (.tup (.cons (.k (.int 0)) (.nil))) (.cons (.tup (.cons (.k (.int 1)) (.nil))) (.cons (.tup (.cons (.k (.int 0)) (.cons (.k (.int 1)) (.nil)))) (.cons (.tup (.cons (.k (.int 1)) (.cons (.k (.int 2)) (.nil)))) (.cons (.tup (.cons (.k (.int 0)) (.cons (.k (.int 2)) (.cons (.k (.int 3)) (.nil))))) (.nil))))))) (.nil)))) (.cons (.call f_law_policy (.cons (.loc 0) (.cons (.bin false .sub (.loc 1) (.k (.int 1))) (.nil)))) (.nil))))))))))))
structure DrawLib (pr : Prg) where
  law_cup : Nat
  law_roll : Nat
  law_some : Nat
  law_test : Nat
  law_policy : Nat
  h_law_cup : pr.fns[law_cup]? = some ⟨1, 2, cupS⟩
  h_law_roll : pr.fns[law_roll]? = some ⟨2, 4, rollS⟩
  h_law_some : pr.fns[law_some]? = some ⟨2, 2, S_law_some law_roll⟩
  h_law_test : pr.fns[law_test]? = some ⟨3, 5, S_law_test law_roll law_some law_test⟩
  h_law_policy : pr.fns[law_policy]? = some ⟨2, 3, S_law_policy law_roll law_some law_policy law_test⟩
section
variable {pr : Prg} (L : DrawLib pr)
theorem DrawLib.r_law_some (n : Nat) (a b : PV) (m : Mem) : run pr (n + 1) L.law_some [a, b] m = goP pr (S_law_some L.law_roll) 2 2 n [a, b] m := run_go L.h_law_some _ _ _ rfl
theorem DrawLib.r_law_test (n : Nat) (a b c : PV) (m : Mem) : run pr (n + 1) L.law_test [a, b, c] m = goP pr (S_law_test L.law_roll L.law_some L.law_test) 3 5 n [a, b, c] m := run_go L.h_law_test _ _ _ rfl
theorem DrawLib.r_law_policy (n : Nat) (a b : PV) (m : Mem) : run pr (n + 1) L.law_policy [a, b] m = goP pr (S_law_policy L.law_roll L.law_some L.law_policy L.law_test) 2 3 n [a, b] m := run_go L.h_law_policy _ _ _ rfl
end
-- _law_header(row): row
def S_law_header : S := .ret (.tup (.cons (.bin false .mod (.bf false .int_ (.cons (.bin false .fdiv (.loc 0) (.k (.int 16))) (.nil))) (.k (.int 4))) (.cons (.bin false .mod (.bf false .int_ (.cons (.bin false .fdiv (.loc 0) (.k (.int 4))) (.nil))) (.k (.int 4))) (.cons (.bin false .mod (.bf false .int_ (.cons (.loc 0) (.nil))) (.k (.int 4))) (.nil)))))
-- _law_passes(test, header, port): test header port told part
def S_law_passes (f_law_passes : Nat) : S := .seq (.ite (.cmp .eq (.ix (.loc 0) (.k (.int 0))) (.k (.str [97, 110, 121]))) (.ret (.k (.bl true))) (.skip)) (.seq (.ite (.cmp .eq (.ix (.loc 0) (.k (.int 0))) (.k (.str [102, 105, 101, 108, 100]))) (.ret (.cmp2 .le .le (.ix (.loc 0) (.k (.int 2))) (.ix (.loc 1) (.index (.lst false (.cons (.k (.str [102, 114, 111, 109])) (.cons (.k (.str [116, 111])) (.cons (.k (.str [109, 97, 114, 107])) (.nil))))) (.ix (.loc 0) (.k (.int 1))))) (.ix (.loc 0) (.k (.int 3))))) (.skip)) (.seq (.ite (.cmp .eq (.ix (.loc 0) (.k (.int 0))) (.k (.str [105, 110]))) (.ret (.cmp .eq (.loc 2) (.ix (.loc 0) (.k (.int 1))))) (.skip)) (.seq (.asg (.v 3) (.comp false [4] (.v 4) (.sl (.loc 0) (.k (.int 1)) (.k .non)) (.k (.bl true)) (.call f_law_passes (.cons (.loc 4) (.cons (.loc 1) (.cons (.loc 2) (.nil))))))) (.ret (.ite (.cmp .eq (.ix (.loc 0) (.k (.int 0))) (.k (.str [110, 111, 116]))) (.not (.ix (.loc 3) (.k (.int 0)))) (.ite (.cmp .eq (.ix (.loc 0) (.k (.int 0))) (.k (.str [97, 110, 100]))) (.cmp .notin (.k (.bl false)) (.loc 3)) (.cmp .in_ (.k (.bl true)) (.loc 3))))))))
-- _law_cards(policy, switch, row, card): policy switch row card sort at header found part own one
def S_law_cards (f_law_cards f_law_header f_law_passes : Nat) : S := .seq (.asg (.v 4) (.ix (.loc 0) (.k (.int 0)))) (.seq (.ite (.cmp .in_ (.loc 4) (.lst false (.cons (.k (.str [100, 114, 111, 112])) (.cons (.k (.str [112, 97, 115, 115])) (.nil))))) (.ret (.ite (.cmp .eq (.loc 4) (.k (.str [112, 97, 115, 115]))) (.lst false (.cons (.loc 3) (.nil))) (.lst false (.nil)))) (.skip)) (.seq (.ite (.cmp .eq (.loc 4) (.k (.str [115, 101, 116]))) (.seq (.asg (.v 5) (.index (.lst false (.cons (.k (.str [102, 114, 111, 109])) (.cons (.k (.str [116, 111])) (.cons (.k (.str [109, 97, 114, 107])) (.nil))))) (.ix (.loc 0) (.k (.int 1))))) (.ret (.lst false (.cons (.tup (.cons (.bin false .add (.bin false .add (.sl (.ix (.loc 3) (.k (.int 0))) (.k .non) (.loc 5)) (.tup (.cons (.ix (.loc 0) (.k (.int 2))) (.nil)))) (.sl (.ix (.loc 3) (.k (.int 0))) (.bin false .add (.loc 5) (.k (.int 1))) (.k .non))) (.cons (.ix (.loc 3) (.k (.int 1))) (.nil)))) (.nil))))) (.skip)) (.seq (.ite (.cmp .eq (.loc 4) (.k (.str [111, 117, 116]))) (.ret (.lst false (.cons (.tup (.cons (.ix (.loc 3) (.k (.int 0))) (.cons (.ix (.loc 0) (.k (.int 1))) (.nil)))) (.nil)))) (.skip)) (.seq (.ite (.cmp .eq (.loc 4) (.k (.str [97, 116]))) (.ret (.ite (.cmp .in_ (.loc 1) (.ix (.loc 0) (.k (.int 1)))) (.call f_law_cards (.cons (.ix (.loc 0) (.k (.int 2))) (.cons (.loc 1) (.cons (.loc 2) (.cons (.loc 3) (.nil)))))) (.lst false (.nil)))) (.skip)) (.seq (.ite (.cmp .eq (.loc 4) (.k (.str [105, 102]))) (.seq (.asg (.v 6) (.bf false .tuple (.cons (.comp false [9, 10] (.t (.cons (.v 9) (.cons (.v 10) (.nil)))) (.zip (.call f_law_header (.cons (.loc 2) (.nil))) (.ix (.loc 3) (.k (.int 0)))) (.k (.bl true)) (.ite (.cmp .lt (.loc 10) (.k (.int 0))) (.loc 9) (.loc 10))) (.nil)))) (.ret (.call f_law_cards (.cons (.ix (.loc 0) (.ite (.call f_law_passes (.cons (.ix (.loc 0) (.k (.int 1))) (.cons (.loc 6) (.cons (.bin false .fdiv (.loc 2) (.k (.int 64))) (.nil))))) (.k (.int 2)) (.k (.int 3)))) (.cons (.loc 1) (.cons (.loc 2) (.cons (.loc 3) (.nil)))))))) (.skip)) (.seq (.asg (.v 7) (.lst false (.nil))) (.seq (.ite (.cmp .eq (.loc 4) (.k (.str [98, 111, 116, 104]))) (.for_ (.v 8) (.sl (.loc 0) (.k (.int 1)) (.k .non)) (.asg (.v 7) (.bin false .add (.loc 7) (.call f_law_cards (.cons (.loc 8) (.cons (.loc 1) (.cons (.loc 2) (.cons (.loc 3) (.nil))))))))) (.for_ (.v 9) (.call f_law_cards (.cons (.ix (.loc 0) (.k (.int 1))) (.cons (.loc 1) (.cons (.loc 2) (.cons (.loc 3) (.nil)))))) (.asg (.v 7) (.bin false .add (.loc 7) (.call f_law_cards (.cons (.ix (.loc 0) (.k (.int 2))) (.cons (.loc 1) (.cons (.loc 2) (.cons (.loc 9) (.nil)))))))))) (.ret (.bf false .sortset (.cons (.loc 7) (.nil)))))))))))
-- _law_actions(policy, switch, row): policy switch row cards fields port
def S_law_actions (f_law_cards : Nat) : S := .seq (.asg (.v 3) (.call f_law_cards (.cons (.loc 0) (.cons (.loc 1) (.cons (.loc 2) (.cons (.tup (.cons (.tup (.cons (.neg (.k (.int 1))) (.cons (.neg (.k (.int 1))) (.cons (.neg (.k (.int 1))) (.nil))))) (.cons (.neg (.k (.int 1))) (.nil)))) (.nil))))))) (.ret (.bf false .tuple (.cons (.bf false .sorted (.cons (.comp false [4, 5] (.t (.cons (.v 4) (.cons (.v 5) (.nil)))) (.loc 3) (.cmp .ge (.loc 5) (.k (.int 0))) (.bin false .add (.tup (.cons (.loc 5) (.nil))) (.loc 4))) (.nil))) (.nil))))
structure OwnLib (pr : Prg) where
  law_header : Nat
  law_passes : Nat
  law_cards : Nat
  law_actions : Nat
  h_law_header : pr.fns[law_header]? = some ⟨1, 1, S_law_header ⟩
  h_law_passes : pr.fns[law_passes]? = some ⟨3, 5, S_law_passes law_passes⟩
  h_law_cards : pr.fns[law_cards]? = some ⟨4, 11, S_law_cards law_cards law_header law_passes⟩
  h_law_actions : pr.fns[law_actions]? = some ⟨3, 6, S_law_actions law_cards⟩
section
variable {pr : Prg} (L : OwnLib pr)
theorem OwnLib.r_law_header (n : Nat) (a : PV) (m : Mem) : run pr (n + 1) L.law_header [a] m = goP pr (S_law_header ) 1 1 n [a] m := run_go L.h_law_header _ _ _ rfl
theorem OwnLib.r_law_passes (n : Nat) (a b c : PV) (m : Mem) : run pr (n + 1) L.law_passes [a, b, c] m = goP pr (S_law_passes L.law_passes) 3 5 n [a, b, c] m := run_go L.h_law_passes _ _ _ rfl
theorem OwnLib.r_law_cards (n : Nat) (a b c d : PV) (m : Mem) : run pr (n + 1) L.law_cards [a, b, c, d] m = goP pr (S_law_cards L.law_cards L.law_header L.law_passes) 4 11 n [a, b, c, d] m := run_go L.h_law_cards _ _ _ rfl
theorem OwnLib.r_law_actions (n : Nat) (a b c : PV) (m : Mem) : run pr (n + 1) L.law_actions [a, b, c] m = goP pr (S_law_actions L.law_cards) 3 6 n [a, b, c] m := run_go L.h_law_actions _ _ _ rfl
end
end Pv
set_option maxHeartbeats 4000000
namespace Pv
/-! ## Tests, typed -/
/-- a field's name -/
def fw : Nat → List Nat
  | 0 => [102, 114, 111, 109]
  | 1 => [116, 111]
  | _ => [109, 97, 114, 107]
inductive Tst where
  | any
  | field (f : Nat) (lo hi : Int)
  | inp (p : Int)
  | not (a : Tst)
  | and (a b : Tst)
  | or (a b : Tst)
def Tst.enc : Tst → PV
  | .any => .tup [.str [97, 110, 121]]
  | .field f lo hi => .tup [.str [102, 105, 101, 108, 100], .str (fw f), .int lo, .int hi]
  | .inp p => .tup [.str [105, 110], .int p]
  | .not a => .tup [.str [110, 111, 116], a.enc]
  | .and a b => .tup [.str [97, 110, 100], a.enc, b.enc]
  | .or a b => .tup [.str [111, 114], a.enc, b.enc]
def Tst.ok : Tst → Prop
  | .any => True
  | .field f lo hi => f < 3 ∧ 0 ≤ lo ∧ lo ≤ hi ∧ hi ≤ 3
  | .inp p => 0 ≤ p ∧ p ≤ 3
  | .not a => a.ok
  | .and a b => a.ok ∧ b.ok
  | .or a b => a.ok ∧ b.ok
def Tst.ht : Tst → Nat
  | .not a => a.ht + 1
  | .and a b => max a.ht b.ht + 1
  | .or a b => max a.ht b.ht + 1
  | _ => 1
def Tst.sz : Tst → Nat
  | .not a => a.sz + 1
  | .and a b => a.sz + b.sz + 1
  | .or a b => a.sz + b.sz + 1
  | _ => 1
theorem Tst.sz_pos (t : Tst) : 1 ≤ t.sz := by cases t <;> simp [Tst.sz]
theorem Tst.ht_pos (t : Tst) : 1 ≤ t.ht := by cases t <;> simp [Tst.ht]
theorem Tst.enc_D (t : Tst) : t.enc.isD = true := by cases t <;> rfl
/-- the field of a header -/
def fld (f : Nat) (a b c : Int) : Int := match f with
  | 0 => a
  | 1 => b
  | _ => c
/-- what a test says of a header that comes in at a port -/
def Tst.says (a b c p : Int) : Tst → Bool
  | .any => true
  | .field f lo hi => decide (lo ≤ fld f a b c) && decide (fld f a b c ≤ hi)
  | .inp q => decide (p = q)
  | .not t => !t.says a b c p
  | .and s t => s.says a b c p && t.says a b c p
  | .or s t => s.says a b c p || t.says a b c p
abbrev hdr (a b c : Int) : PV := .tup [.int a, .int b, .int c]
section
variable {pr : Prg}
theorem whole_ (L : ShLib pr) {n : Nat} {i lo hi : Int} {m : Mem} : run pr (n + 1) L.is_whole [.int i, .int lo, .int hi] m = .ok (.bl (decide (lo ≤ i) && decide (i ≤ hi))) m := by
  rw [L.r_is_whole]
  simp [goP, S_is_whole, x_k, x_loc, x_glo, x_bin, x_neg, x_not, x_and, x_or, x_cmp, x_cmp2, x_ite, x_nil, x_cons, x_tup, x_lst, x_ix, x_sl, x_call, x_bf, x_isi, x_rng, x_zip, x_zip3, x_enu, x_rng2, x_comp, x_dget, x_index, x_indexc, x_tell, s_skip, s_seq, s_ex, s_ret, s_asg, s_par, s_ite, s_for, thenS_next, thenS_ret, fin_ret, fin_next, ob_some, obl_bl, bnd_if, lft_if, unl, bnd_ok, bnd_no, lft_some, lft_none, isTy, truth, cmpop]
  split <;> simp_all <;> omega
theorem whole_t (L : ShLib pr) {n : Nat} {i lo hi : Int} {m : Mem} (h1 : lo ≤ i) (h2 : i ≤ hi) : run pr (n + 1) L.is_whole [.int i, .int lo, .int hi] m = .ok (.bl true) m := by
  rw [whole_ L]; simp [h1, h2]
theorem tup_t (L : ShLib pr) {n : Nat} {l : List PV} {lo hi : Int} {m : Mem} (h1 : lo ≤ l.length) (h2 : (l.length : Int) ≤ hi) : run pr (n + 1) L.is_tuple_of [.tup l, .int lo, .int hi] m = .ok (.bl true) m := by
  rw [L.r_is_tuple_of]
  simp [goP, S_is_tuple_of, x_k, x_loc, x_glo, x_bin, x_neg, x_not, x_and, x_or, x_cmp, x_cmp2, x_ite, x_nil, x_cons, x_tup, x_lst, x_ix, x_sl, x_call, x_bf, x_isi, x_rng, x_zip, x_zip3, x_enu, x_rng2, x_comp, x_dget, x_index, x_indexc, x_tell, s_skip, s_seq, s_ex, s_ret, s_asg, s_par, s_ite, s_for, thenS_next, thenS_ret, fin_ret, fin_next, ob_some, obl_bl, bnd_if, lft_if, unl, bnd_ok, bnd_no, lft_some, lft_none, isTy, truth, cmpop, callB, vw, h1, h2]
theorem head_t (L : ShLib pr) {n : Nat} {s : List Nat} {l : List PV} {m : Mem} (h2 : l.length ≤ 3) : run pr (n + 2) L.is_headed [.tup (.str s :: l), .int 1, .int 4] m = .ok (.bl true) m := by
  have w : run pr (n + 1) L.is_tuple_of [.tup (.str s :: l), .int 1, .int 4] m = .ok (.bl true) m := tup_t L (by simp; omega) (by simp; omega)
  rw [L.r_is_headed]
  simp [goP, S_is_headed, x_k, x_loc, x_glo, x_bin, x_neg, x_not, x_and, x_or, x_cmp, x_cmp2, x_ite, x_nil, x_cons, x_tup, x_lst, x_ix, x_sl, x_call, x_bf, x_isi, x_rng, x_zip, x_zip3, x_enu, x_rng2, x_comp, x_dget, x_index, x_indexc, x_tell, s_skip, s_seq, s_ex, s_ret, s_asg, s_par, s_ite, s_for, thenS_next, thenS_ret, fin_ret, fin_next, ob_some, obl_bl, bnd_if, lft_if, unl, bnd_ok, bnd_no, lft_some, lft_none, w, item, vw, atI, isTy]
theorem word_f (L : ShLib pr) {n f : Nat} {m : Mem} : run pr (n + 1) L.is_word_of [.str (fw f), .tup [.str [102, 114, 111, 109], .str [116, 111], .str [109, 97, 114, 107]]] m = .ok (.bl true) m := by
  rw [L.r_is_word_of]
  have : anyEq (.str (fw f)) [.str [102, 114, 111, 109], .str [116, 111], .str [109, 97, 114, 107]] = true := by
    rcases f with _ | _ | f
    · decide
    · decide
    · show anyEq (.str [109, 97, 114, 107]) _ = true; decide
  simp [goP, S_is_word_of, x_k, x_loc, x_glo, x_bin, x_neg, x_not, x_and, x_or, x_cmp, x_cmp2, x_ite, x_nil, x_cons, x_tup, x_lst, x_ix, x_sl, x_call, x_bf, x_isi, x_rng, x_zip, x_zip3, x_enu, x_rng2, x_comp, x_dget, x_index, x_indexc, x_tell, s_skip, s_seq, s_ex, s_ret, s_asg, s_par, s_ite, s_for, thenS_next, thenS_ret, fin_ret, fin_next, ob_some, obl_bl, bnd_if, lft_if, unl, bnd_ok, bnd_no, lft_some, lft_none, isTy, truth, cmpop, D_non, D_bl, D_int, D_str, D_tup, D_lst, P_non, P_bl, P_int, P_str, P_tup, P_lst, P_nil, P_cons, eqM_d, isIn_t, isIn_l, this]
theorem field_t (L : TestLib pr) {n f : Nat} {lo hi : Int} {m : Mem} (h : Tst.ok (.field f lo hi)) : run pr (n + 2) L.is_field_test [Tst.enc (.field f lo hi)] m = .ok (.bl true) m := by
  obtain ⟨h1, h2, h3, h4⟩ := h
  have w1 : ∀ m, run pr (n + 1) L.is_word_of [.str (fw f), .tup [.str [102, 114, 111, 109], .str [116, 111], .str [109, 97, 114, 107]]] m = .ok (.bl true) m := fun m => word_f L.toShLib
  have w2 : ∀ m, run pr (n + 1) L.is_whole [.int lo, .int 0, .int 3] m = .ok (.bl true) m := fun m => whole_t L.toShLib h2 (by omega)
  have w3 : ∀ m, run pr (n + 1) L.is_whole [.int hi, .int lo, .int 3] m = .ok (.bl true) m := fun m => whole_t L.toShLib h3 h4
  rw [L.r_is_field_test]
  simp [goP, S_is_field_test, Tst.enc, x_k, x_loc, x_glo, x_bin, x_neg, x_not, x_and, x_or, x_cmp, x_cmp2, x_ite, x_nil, x_cons, x_tup, x_lst, x_ix, x_sl, x_call, x_bf, x_isi, x_rng, x_zip, x_zip3, x_enu, x_rng2, x_comp, x_dget, x_index, x_indexc, x_tell, s_skip, s_seq, s_ex, s_ret, s_asg, s_par, s_ite, s_for, thenS_next, thenS_ret, fin_ret, fin_next, ob_some, obl_bl, bnd_if, lft_if, unl, bnd_ok, bnd_no, lft_some, lft_none, truth, cmpop, callB, vw, item, atI, L.h_FIELDS, L.h_HIGH, w1, w2, w3, D_non, D_bl, D_int, D_str, D_tup, D_lst, P_non, P_bl, P_int, P_str, P_tup, P_lst, P_nil, P_cons, eqM_d, isIn_t, isIn_l, PV.eqv]
/-- the program counts a right test's nodes -/
theorem test_left (L : TestLib pr) : ∀ (t : Tst), t.ok → ∀ (h : Nat) (n : Nat) (k : Int) (m : Mem), t.ht ≤ h → (t.sz : Int) ≤ k → run pr (n + t.ht + 3) L.test_left [t.enc, .int h, .int k] m = .ok (.int (k - t.sz)) m := by
  intro t
  have common : ∀ (h : Nat) (k : Int), 1 ≤ h → 1 ≤ k → ((h : Int) = 0) = False ∧ (k = 0) = False ∧ (h = 0) = False := fun h k h1 h2 => ⟨by simp; omega, by simp; omega, by simp; omega⟩
  induction t with
  | any =>
    intro _ h n k m h1 h2
    simp only [Tst.ht, Tst.sz] at h1 h2 ⊢
    obtain ⟨e1, e2, e0⟩ := common h k h1 (by omega)
    have hd : ∀ m, run pr (n + 3) L.is_headed [Tst.enc .any, .int 1, .int 4] m = .ok (.bl true) m := fun m => head_t L.toShLib (n := n + 1) (by simp)
    rw [show n + 1 + 3 = (n + 3) + 1 from rfl, L.r_test_left]
    simp only [Tst.enc] at hd ⊢
    simp [goP, S_test_left, x_k, x_loc, x_glo, x_bin, x_neg, x_not, x_and, x_or, x_cmp, x_cmp2, x_ite, x_nil, x_cons, x_tup, x_lst, x_ix, x_sl, x_call, x_bf, x_isi, x_rng, x_zip, x_zip3, x_enu, x_rng2, x_comp, x_dget, x_index, x_indexc, x_tell, s_skip, s_seq, s_ex, s_ret, s_asg, s_par, s_ite, s_for, thenS_next, thenS_ret, fin_ret, fin_next, ob_some, obl_bl, bnd_if, lft_if, unl, bnd_ok, bnd_no, lft_some, lft_none, truth, cmpop, D_non, D_bl, D_int, D_str, D_tup, D_lst, P_non, P_bl, P_int, P_str, P_tup, P_lst, P_nil, P_cons, eqM_d, isIn_t, isIn_l, PV.eqv, e1, e2, e0, hd, asg, item, vw, atI, binop, arith, callB]
  | field f lo hi =>
    intro ok h n k m h1 h2
    simp only [Tst.ht, Tst.sz] at h1 h2 ⊢
    obtain ⟨e1, e2, e0⟩ := common h k h1 (by omega)
    have hd : ∀ m, run pr (n + 3) L.is_headed [Tst.enc (.field f lo hi), .int 1, .int 4] m = .ok (.bl true) m := fun m => head_t L.toShLib (n := n + 1) (by simp)
    have hf : ∀ m, run pr (n + 3) L.is_field_test [Tst.enc (.field f lo hi)] m = .ok (.bl true) m := fun m => field_t L (n := n + 1) ok
    rw [show n + 1 + 3 = (n + 3) + 1 from rfl, L.r_test_left]
    simp only [Tst.enc] at hd hf ⊢
    simp [goP, S_test_left, x_k, x_loc, x_glo, x_bin, x_neg, x_not, x_and, x_or, x_cmp, x_cmp2, x_ite, x_nil, x_cons, x_tup, x_lst, x_ix, x_sl, x_call, x_bf, x_isi, x_rng, x_zip, x_zip3, x_enu, x_rng2, x_comp, x_dget, x_index, x_indexc, x_tell, s_skip, s_seq, s_ex, s_ret, s_asg, s_par, s_ite, s_for, thenS_next, thenS_ret, fin_ret, fin_next, ob_some, obl_bl, bnd_if, lft_if, unl, bnd_ok, bnd_no, lft_some, lft_none, truth, cmpop, D_non, D_bl, D_int, D_str, D_tup, D_lst, P_non, P_bl, P_int, P_str, P_tup, P_lst, P_nil, P_cons, eqM_d, isIn_t, isIn_l, PV.eqv, e1, e2, e0, hd, hf, asg, item, vw, atI, binop, arith, callB]
  | inp p =>
    intro ok h n k m h1 h2
    simp only [Tst.ht, Tst.sz] at h1 h2 ⊢
    obtain ⟨e1, e2, e0⟩ := common h k h1 (by omega)
    have hd : ∀ m, run pr (n + 3) L.is_headed [Tst.enc (.inp p), .int 1, .int 4] m = .ok (.bl true) m := fun m => head_t L.toShLib (n := n + 1) (by simp)
    have hw : ∀ m, run pr (n + 3) L.is_whole [.int p, .int 0, .int 3] m = .ok (.bl true) m := fun m => whole_t L.toShLib ok.1 ok.2
    rw [show n + 1 + 3 = (n + 3) + 1 from rfl, L.r_test_left]
    simp only [Tst.enc] at hd ⊢
    simp [goP, S_test_left, x_k, x_loc, x_glo, x_bin, x_neg, x_not, x_and, x_or, x_cmp, x_cmp2, x_ite, x_nil, x_cons, x_tup, x_lst, x_ix, x_sl, x_call, x_bf, x_isi, x_rng, x_zip, x_zip3, x_enu, x_rng2, x_comp, x_dget, x_index, x_indexc, x_tell, s_skip, s_seq, s_ex, s_ret, s_asg, s_par, s_ite, s_for, thenS_next, thenS_ret, fin_ret, fin_next, ob_some, obl_bl, bnd_if, lft_if, unl, bnd_ok, bnd_no, lft_some, lft_none, truth, cmpop, D_non, D_bl, D_int, D_str, D_tup, D_lst, P_non, P_bl, P_int, P_str, P_tup, P_lst, P_nil, P_cons, eqM_d, isIn_t, isIn_l, PV.eqv, e1, e2, e0, hd, hw, asg, item, vw, atI, binop, arith, callB, L.h_PORTS]
  | not a iha =>
    intro ok h n k m h1 h2
    simp only [Tst.ht, Tst.sz] at h1 h2 ⊢
    have sa := a.sz_pos
    obtain ⟨e1, e2, e0⟩ := common h k (by omega) (by omega)
    have hd : ∀ m, run pr (n + a.ht + 3) L.is_headed [Tst.enc (.not a), .int 1, .int 4] m = .ok (.bl true) m := fun m => head_t L.toShLib (n := n + a.ht + 1) (by simp)
    have e3 : 0 ≤ k - 1 := by omega
    obtain ⟨h', rfl⟩ : ∃ h', h = h' + 1 := ⟨h - 1, by omega⟩
    have ra := iha ok h' n (k - 1) m (by omega) (by omega)
    rw [show n + (a.ht + 1) + 3 = (n + a.ht + 3) + 1 by omega, L.r_test_left]
    simp only [Tst.enc] at hd ⊢
    simp [goP, S_test_left, x_k, x_loc, x_glo, x_bin, x_neg, x_not, x_and, x_or, x_cmp, x_cmp2, x_ite, x_nil, x_cons, x_tup, x_lst, x_ix, x_sl, x_call, x_bf, x_isi, x_rng, x_zip, x_zip3, x_enu, x_rng2, x_comp, x_dget, x_index, x_indexc, x_tell, s_skip, s_seq, s_ex, s_ret, s_asg, s_par, s_ite, s_for, thenS_next, thenS_ret, fin_ret, fin_next, ob_some, obl_bl, bnd_if, lft_if, unl, bnd_ok, bnd_no, lft_some, lft_none, truth, cmpop, D_non, D_bl, D_int, D_str, D_tup, D_lst, P_non, P_bl, P_int, P_str, P_tup, P_lst, P_nil, P_cons, eqM_d, isIn_t, isIn_l, PV.eqv, e1, e2, e0, hd, asg, item, vw, atI, binop, arith, callB, forL, forB_eq, slice, optI, small, cut, bound, e3, ra]
    rw [if_neg (by omega), if_pos (by omega)]
    congr 2
    omega
  | and a b iha ihb =>
    intro ok h n k m h1 h2
    simp only [Tst.ht, Tst.sz] at h1 h2 ⊢
    have sa := a.sz_pos
    have sb := b.sz_pos
    obtain ⟨e1, e2, e0⟩ := common h k (by omega) (by omega)
    have hd : ∀ m, run pr (n + max a.ht b.ht + 3) L.is_headed [Tst.enc (.and a b), .int 1, .int 4] m = .ok (.bl true) m := fun m => head_t L.toShLib (n := n + max a.ht b.ht + 1) (by simp)
    have e3 : 0 ≤ k - 1 := by omega
    have e4 : 0 ≤ k - 1 - a.sz := by omega
    obtain ⟨h', rfl⟩ : ∃ h', h = h' + 1 := ⟨h - 1, by omega⟩
    have ra := iha ok.1 h' (n + (max a.ht b.ht - a.ht)) (k - 1) m (by omega) (by omega)
    have rb := ihb ok.2 h' (n + (max a.ht b.ht - b.ht)) (k - 1 - a.sz) m (by omega) (by omega)
    rw [show n + (max a.ht b.ht - a.ht) + a.ht + 3 = n + max a.ht b.ht + 3 by omega] at ra
    rw [show n + (max a.ht b.ht - b.ht) + b.ht + 3 = n + max a.ht b.ht + 3 by omega] at rb
    have wd : anyEq (.str [97, 110, 100]) [.str [97, 110, 100], .str [111, 114]] = true := by decide
    rw [show n + (max a.ht b.ht + 1) + 3 = (n + max a.ht b.ht + 3) + 1 by omega, L.r_test_left]
    simp only [Tst.enc] at hd ⊢
    simp [goP, S_test_left, x_k, x_loc, x_glo, x_bin, x_neg, x_not, x_and, x_or, x_cmp, x_cmp2, x_ite, x_nil, x_cons, x_tup, x_lst, x_ix, x_sl, x_call, x_bf, x_isi, x_rng, x_zip, x_zip3, x_enu, x_rng2, x_comp, x_dget, x_index, x_indexc, x_tell, s_skip, s_seq, s_ex, s_ret, s_asg, s_par, s_ite, s_for, thenS_next, thenS_ret, fin_ret, fin_next, ob_some, obl_bl, bnd_if, lft_if, unl, bnd_ok, bnd_no, lft_some, lft_none, truth, cmpop, D_non, D_bl, D_int, D_str, D_tup, D_lst, P_non, P_bl, P_int, P_str, P_tup, P_lst, P_nil, P_cons, eqM_d, isIn_t, isIn_l, PV.eqv, e1, e2, e0, hd, asg, item, vw, atI, binop, arith, callB, forL, forB_eq, slice, optI, small, cut, bound, e3, ra, wd, e4, rb]
    rw [if_neg (by omega), if_pos (by omega), if_pos (by omega)]
    congr 2
    omega
  | or a b iha ihb =>
    intro ok h n k m h1 h2
    simp only [Tst.ht, Tst.sz] at h1 h2 ⊢
    have sa := a.sz_pos
    have sb := b.sz_pos
    obtain ⟨e1, e2, e0⟩ := common h k (by omega) (by omega)
    have hd : ∀ m, run pr (n + max a.ht b.ht + 3) L.is_headed [Tst.enc (.or a b), .int 1, .int 4] m = .ok (.bl true) m := fun m => head_t L.toShLib (n := n + max a.ht b.ht + 1) (by simp)
    have e3 : 0 ≤ k - 1 := by omega
    have e4 : 0 ≤ k - 1 - a.sz := by omega
    obtain ⟨h', rfl⟩ : ∃ h', h = h' + 1 := ⟨h - 1, by omega⟩
    have ra := iha ok.1 h' (n + (max a.ht b.ht - a.ht)) (k - 1) m (by omega) (by omega)
    have rb := ihb ok.2 h' (n + (max a.ht b.ht - b.ht)) (k - 1 - a.sz) m (by omega) (by omega)
    rw [show n + (max a.ht b.ht - a.ht) + a.ht + 3 = n + max a.ht b.ht + 3 by omega] at ra
    rw [show n + (max a.ht b.ht - b.ht) + b.ht + 3 = n + max a.ht b.ht + 3 by omega] at rb
    have wd : anyEq (.str [111, 114]) [.str [97, 110, 100], .str [111, 114]] = true := by decide
    rw [show n + (max a.ht b.ht + 1) + 3 = (n + max a.ht b.ht + 3) + 1 by omega, L.r_test_left]
    simp only [Tst.enc] at hd ⊢
    simp [goP, S_test_left, x_k, x_loc, x_glo, x_bin, x_neg, x_not, x_and, x_or, x_cmp, x_cmp2, x_ite, x_nil, x_cons, x_tup, x_lst, x_ix, x_sl, x_call, x_bf, x_isi, x_rng, x_zip, x_zip3, x_enu, x_rng2, x_comp, x_dget, x_index, x_indexc, x_tell, s_skip, s_seq, s_ex, s_ret, s_asg, s_par, s_ite, s_for, thenS_next, thenS_ret, fin_ret, fin_next, ob_some, obl_bl, bnd_if, lft_if, unl, bnd_ok, bnd_no, lft_some, lft_none, truth, cmpop, D_non, D_bl, D_int, D_str, D_tup, D_lst, P_non, P_bl, P_int, P_str, P_tup, P_lst, P_nil, P_cons, eqM_d, isIn_t, isIn_l, PV.eqv, e1, e2, e0, hd, asg, item, vw, atI, binop, arith, callB, forL, forB_eq, slice, optI, small, cut, bound, e3, ra, wd, e4, rb]
    rw [if_neg (by omega), if_pos (by omega), if_pos (by omega)]
    congr 2
    omega
/-! ### what a test says -/
theorem fix_f {f : Nat} (h : f < 3) : ([[102, 114, 111, 109], [116, 111], [109, 97, 114, 107]].findIdx? fun z => z == fw f) = some f := by
  rcases f with _ | _ | _ | f
  · rfl
  · rfl
  · rfl
  · omega
theorem item_hdr {m : Mem} {f : Nat} {a b c : Int} (h : f < 3) : item m (hdr a b c) (.int f) = some (.int (fld f a b c)) := by
  rcases f with _ | _ | _ | f
  · rfl
  · rfl
  · rfl
  · omega
theorem fdx_f {f : Nat} (h : f < 3) : ([PV.str [102, 114, 111, 109], .str [116, 111], .str [109, 97, 114, 107]].findIdx? fun z => z.eqv (.str (fw f))) = some f := by
  rcases f with _ | _ | _ | f
  · rfl
  · rfl
  · rfl
  · omega
theorem says_in (L : MeanLib pr) {a b c p : Int} : ∀ (t : Tst), t.ok → ∀ (n : Nat) (m : Mem), run pr (n + t.ht) L.passes_in [t.enc, hdr a b c, .int p] m = .ok (.bl (t.says a b c p)) m := by
  intro t
  induction t with
  | any =>
    intro ok n m
    simp only [Tst.ht, Tst.enc]
    rw [L.r_passes_in]
    simp [goP, S_passes_in, x_k, x_loc, x_glo, x_bin, x_neg, x_not, x_and, x_or, x_cmp, x_cmp2, x_ite, x_nil, x_cons, x_tup, x_lst, x_ix, x_sl, x_call, x_bf, x_isi, x_rng, x_zip, x_zip3, x_enu, x_rng2, x_comp, x_dget, x_index, x_indexc, x_tell, s_skip, s_seq, s_ex, s_ret, s_asg, s_par, s_ite, s_for, thenS_next, thenS_ret, fin_ret, fin_next, ob_some, obl_bl, bnd_if, lft_if, unl, bnd_ok, bnd_no, lft_some, lft_none, truth, cmpop, D_non, D_bl, D_int, D_str, D_tup, D_lst, P_non, P_bl, P_int, P_str, P_tup, P_lst, P_nil, P_cons, eqM_d, isIn_t, isIn_l, PV.eqv, asg, item, vw, atI, Tst.says]
  | field f lo hi =>
    intro ok n m
    simp only [Tst.ht, Tst.enc]
    rw [L.r_passes_in]
    have hf := L.h_FIELDS
    have h3 := ok.1
    have key : ∀ x : Int, (if (lo ≤ x) then (R.ok (PV.bl (decide (x ≤ hi))) m) else R.ok (PV.bl false) m) = R.ok (PV.bl (decide (lo ≤ x) && decide (x ≤ hi))) m := fun x => by by_cases h : lo ≤ x <;> simp [h]
    rcases f with _ | _ | _ | f
    · simp [goP, S_passes_in, x_k, x_loc, x_glo, x_bin, x_neg, x_not, x_and, x_or, x_cmp, x_cmp2, x_ite, x_nil, x_cons, x_tup, x_lst, x_ix, x_sl, x_call, x_bf, x_isi, x_rng, x_zip, x_zip3, x_enu, x_rng2, x_comp, x_dget, x_index, x_indexc, x_tell, s_skip, s_seq, s_ex, s_ret, s_asg, s_par, s_ite, s_for, thenS_next, thenS_ret, fin_ret, fin_next, ob_some, obl_bl, bnd_if, lft_if, unl, bnd_ok, bnd_no, lft_some, lft_none, truth, cmpop, D_non, D_bl, D_int, D_str, D_tup, D_lst, P_non, P_bl, P_int, P_str, P_tup, P_lst, P_nil, P_cons, eqM_d, isIn_t, isIn_l, PV.eqv, asg, item, vw, atI, Tst.says, hf, strsOf, fw, fld, key, List.findIdx?_cons]
    · simp [goP, S_passes_in, x_k, x_loc, x_glo, x_bin, x_neg, x_not, x_and, x_or, x_cmp, x_cmp2, x_ite, x_nil, x_cons, x_tup, x_lst, x_ix, x_sl, x_call, x_bf, x_isi, x_rng, x_zip, x_zip3, x_enu, x_rng2, x_comp, x_dget, x_index, x_indexc, x_tell, s_skip, s_seq, s_ex, s_ret, s_asg, s_par, s_ite, s_for, thenS_next, thenS_ret, fin_ret, fin_next, ob_some, obl_bl, bnd_if, lft_if, unl, bnd_ok, bnd_no, lft_some, lft_none, truth, cmpop, D_non, D_bl, D_int, D_str, D_tup, D_lst, P_non, P_bl, P_int, P_str, P_tup, P_lst, P_nil, P_cons, eqM_d, isIn_t, isIn_l, PV.eqv, asg, item, vw, atI, Tst.says, hf, strsOf, fw, fld, key, List.findIdx?_cons]
    · simp [goP, S_passes_in, x_k, x_loc, x_glo, x_bin, x_neg, x_not, x_and, x_or, x_cmp, x_cmp2, x_ite, x_nil, x_cons, x_tup, x_lst, x_ix, x_sl, x_call, x_bf, x_isi, x_rng, x_zip, x_zip3, x_enu, x_rng2, x_comp, x_dget, x_index, x_indexc, x_tell, s_skip, s_seq, s_ex, s_ret, s_asg, s_par, s_ite, s_for, thenS_next, thenS_ret, fin_ret, fin_next, ob_some, obl_bl, bnd_if, lft_if, unl, bnd_ok, bnd_no, lft_some, lft_none, truth, cmpop, D_non, D_bl, D_int, D_str, D_tup, D_lst, P_non, P_bl, P_int, P_str, P_tup, P_lst, P_nil, P_cons, eqM_d, isIn_t, isIn_l, PV.eqv, asg, item, vw, atI, Tst.says, hf, strsOf, fw, fld, key, List.findIdx?_cons]
    · omega
  | inp q =>
    intro ok n m
    simp only [Tst.ht, Tst.enc]
    rw [L.r_passes_in]
    simp [goP, S_passes_in, x_k, x_loc, x_glo, x_bin, x_neg, x_not, x_and, x_or, x_cmp, x_cmp2, x_ite, x_nil, x_cons, x_tup, x_lst, x_ix, x_sl, x_call, x_bf, x_isi, x_rng, x_zip, x_zip3, x_enu, x_rng2, x_comp, x_dget, x_index, x_indexc, x_tell, s_skip, s_seq, s_ex, s_ret, s_asg, s_par, s_ite, s_for, thenS_next, thenS_ret, fin_ret, fin_next, ob_some, obl_bl, bnd_if, lft_if, unl, bnd_ok, bnd_no, lft_some, lft_none, truth, cmpop, D_non, D_bl, D_int, D_str, D_tup, D_lst, P_non, P_bl, P_int, P_str, P_tup, P_lst, P_nil, P_cons, eqM_d, isIn_t, isIn_l, PV.eqv, asg, item, vw, atI, Tst.says]
    by_cases h : p = q <;> simp [h]
  | not a iha =>
    intro ok n m
    simp only [Tst.ht, Tst.enc]
    rw [show n + (a.ht + 1) = (n + a.ht) + 1 from rfl, L.r_passes_in]
    simp [goP, S_passes_in, x_k, x_loc, x_glo, x_bin, x_neg, x_not, x_and, x_or, x_cmp, x_cmp2, x_ite, x_nil, x_cons, x_tup, x_lst, x_ix, x_sl, x_call, x_bf, x_isi, x_rng, x_zip, x_zip3, x_enu, x_rng2, x_comp, x_dget, x_index, x_indexc, x_tell, s_skip, s_seq, s_ex, s_ret, s_asg, s_par, s_ite, s_for, thenS_next, thenS_ret, fin_ret, fin_next, ob_some, obl_bl, bnd_if, lft_if, unl, bnd_ok, bnd_no, lft_some, lft_none, truth, cmpop, D_non, D_bl, D_int, D_str, D_tup, D_lst, P_non, P_bl, P_int, P_str, P_tup, P_lst, P_nil, P_cons, eqM_d, isIn_t, isIn_l, PV.eqv, asg, item, vw, atI, Tst.says, iha ok n]
  | and s t ihs iht =>
    intro ok n m
    simp only [Tst.ht, Tst.enc]
    have r1 := ihs ok.1 (n + (max s.ht t.ht - s.ht))
    have r2 := iht ok.2 (n + (max s.ht t.ht - t.ht))
    rw [show n + (max s.ht t.ht - s.ht) + s.ht = n + max s.ht t.ht by omega] at r1
    rw [show n + (max s.ht t.ht - t.ht) + t.ht = n + max s.ht t.ht by omega] at r2
    rw [show n + (max s.ht t.ht + 1) = (n + max s.ht t.ht) + 1 from rfl, L.r_passes_in]
    simp [goP, S_passes_in, x_k, x_loc, x_glo, x_bin, x_neg, x_not, x_and, x_or, x_cmp, x_cmp2, x_ite, x_nil, x_cons, x_tup, x_lst, x_ix, x_sl, x_call, x_bf, x_isi, x_rng, x_zip, x_zip3, x_enu, x_rng2, x_comp, x_dget, x_index, x_indexc, x_tell, s_skip, s_seq, s_ex, s_ret, s_asg, s_par, s_ite, s_for, thenS_next, thenS_ret, fin_ret, fin_next, ob_some, obl_bl, bnd_if, lft_if, unl, bnd_ok, bnd_no, lft_some, lft_none, truth, cmpop, D_non, D_bl, D_int, D_str, D_tup, D_lst, P_non, P_bl, P_int, P_str, P_tup, P_lst, P_nil, P_cons, eqM_d, isIn_t, isIn_l, PV.eqv, asg, item, vw, atI, Tst.says, r1, r2]
    cases s.says a b c p <;> simp [x_k, x_loc, x_glo, x_bin, x_neg, x_not, x_and, x_or, x_cmp, x_cmp2, x_ite, x_nil, x_cons, x_tup, x_lst, x_ix, x_sl, x_call, x_bf, x_isi, x_rng, x_zip, x_zip3, x_enu, x_rng2, x_comp, x_dget, x_index, x_indexc, x_tell, s_skip, s_seq, s_ex, s_ret, s_asg, s_par, s_ite, s_for, thenS_next, thenS_ret, fin_ret, fin_next, ob_some, obl_bl, bnd_if, lft_if, unl, bnd_ok, bnd_no, lft_some, lft_none]
  | or s t ihs iht =>
    intro ok n m
    simp only [Tst.ht, Tst.enc]
    have r1 := ihs ok.1 (n + (max s.ht t.ht - s.ht))
    have r2 := iht ok.2 (n + (max s.ht t.ht - t.ht))
    rw [show n + (max s.ht t.ht - s.ht) + s.ht = n + max s.ht t.ht by omega] at r1
    rw [show n + (max s.ht t.ht - t.ht) + t.ht = n + max s.ht t.ht by omega] at r2
    rw [show n + (max s.ht t.ht + 1) = (n + max s.ht t.ht) + 1 from rfl, L.r_passes_in]
    simp [goP, S_passes_in, x_k, x_loc, x_glo, x_bin, x_neg, x_not, x_and, x_or, x_cmp, x_cmp2, x_ite, x_nil, x_cons, x_tup, x_lst, x_ix, x_sl, x_call, x_bf, x_isi, x_rng, x_zip, x_zip3, x_enu, x_rng2, x_comp, x_dget, x_index, x_indexc, x_tell, s_skip, s_seq, s_ex, s_ret, s_asg, s_par, s_ite, s_for, thenS_next, thenS_ret, fin_ret, fin_next, ob_some, obl_bl, bnd_if, lft_if, unl, bnd_ok, bnd_no, lft_some, lft_none, truth, cmpop, D_non, D_bl, D_int, D_str, D_tup, D_lst, P_non, P_bl, P_int, P_str, P_tup, P_lst, P_nil, P_cons, eqM_d, isIn_t, isIn_l, PV.eqv, asg, item, vw, atI, Tst.says, r1, r2]
    cases s.says a b c p <;> simp [x_k, x_loc, x_glo, x_bin, x_neg, x_not, x_and, x_or, x_cmp, x_cmp2, x_ite, x_nil, x_cons, x_tup, x_lst, x_ix, x_sl, x_call, x_bf, x_isi, x_rng, x_zip, x_zip3, x_enu, x_rng2, x_comp, x_dget, x_index, x_indexc, x_tell, s_skip, s_seq, s_ex, s_ret, s_asg, s_par, s_ite, s_for, thenS_next, thenS_ret, fin_ret, fin_next, ob_some, obl_bl, bnd_if, lft_if, unl, bnd_ok, bnd_no, lft_some, lft_none]
end
end Pv
set_option maxHeartbeats 4000000
namespace Pv
/-! ## Policies, typed -/
inductive Pol where
  | drop
  | pass
  | set (f : Nat) (v : Int)
  | out (p : Int)
  | thn (a b : Pol)
  | both (a b : Pol)
  | ite (t : Tst) (a b : Pol)
  | at_ (ws : List Int) (a : Pol)
def Pol.enc : Pol → PV
  | .drop => .tup [.str [100, 114, 111, 112]]
  | .pass => .tup [.str [112, 97, 115, 115]]
  | .set f v => .tup [.str [115, 101, 116], .str (fw f), .int v]
  | .out p => .tup [.str [111, 117, 116], .int p]
  | .thn a b => .tup [.str [116, 104, 101, 110], a.enc, b.enc]
  | .both a b => .tup [.str [98, 111, 116, 104], a.enc, b.enc]
  | .ite t a b => .tup [.str [105, 102], t.enc, a.enc, b.enc]
  | .at_ ws a => .tup [.str [97, 116], .tup (ws.map .int), a.enc]
/-- the switches that a drawn policy names -/
def swL : List (List Int) := [[0], [1], [0, 1], [1, 2], [0, 2, 3]]
def Pol.ok : Pol → Prop
  | .drop => True
  | .pass => True
  | .set f v => f < 3 ∧ 0 ≤ v ∧ v ≤ 3
  | .out p => 0 ≤ p ∧ p ≤ 3
  | .thn a b => a.ok ∧ b.ok
  | .both a b => a.ok ∧ b.ok
  | .ite t a b => t.ok ∧ a.ok ∧ b.ok
  | .at_ ws a => ws ∈ swL ∧ a.ok
/-- the height, tests among it -/
def Pol.ht : Pol → Nat
  | .thn a b => max a.ht b.ht + 1
  | .both a b => max a.ht b.ht + 1
  | .ite t a b => max t.ht (max a.ht b.ht) + 1
  | .at_ _ a => a.ht + 1
  | _ => 1
def Pol.sz : Pol → Nat
  | .thn a b => a.sz + b.sz + 1
  | .both a b => a.sz + b.sz + 1
  | .ite t a b => t.sz + a.sz + b.sz + 1
  | .at_ _ a => a.sz + 1
  | _ => 1
/-- how deep policies stand in policies -/
def Pol.dp : Pol → Nat
  | .thn a b => max a.dp b.dp + 1
  | .both a b => max a.dp b.dp + 1
  | .ite _ a b => max a.dp b.dp + 1
  | .at_ _ a => a.dp + 1
  | _ => 0
theorem Pol.sz_pos (t : Pol) : 1 ≤ t.sz := by cases t <;> simp [Pol.sz]
theorem Pol.ht_pos (t : Pol) : 1 ≤ t.ht := by cases t <;> simp [Pol.ht]
theorem Pol.enc_D (t : Pol) : t.enc.isD = true := by cases t <;> rfl
/-! ### drawn tests -/
def NT : Nat → Nat
  | 0 => 1
  | d + 1 => 2 * NT d + 1
theorem NT_pos (d : Nat) : 1 ≤ NT d := by cases d <;> simp [NT]
theorem is_fw {x : PV} (h : x ∈ [PV.str [102, 114, 111, 109], .str [116, 111], .str [109, 97, 114, 107]]) : ∃ f, f < 3 ∧ x = .str (fw f) := by
  simp at h
  rcases h with rfl | rfl | rfl
  · exact ⟨0, by omega, rfl⟩
  · exact ⟨1, by omega, rfl⟩
  · exact ⟨2, by omega, rfl⟩
section
variable {pr : Prg} {rest : List (List PV)}
theorem draw_test (L : DrawLib pr) {b : Bool} : ∀ (d n : Nat) (m : Mem), CupR rest m → ∃ (t : Tst) (m' : Mem), CupR rest m' ∧ t.ok ∧ t.ht ≤ d + 1 ∧ t.sz ≤ NT d ∧ run pr (n + d + 3) L.law_test [.cell 0, .int d, .bl b] m = .ok t.enc m' := by
  have two : ∀ n m, CupR rest m → ∃ (f : Nat) (lo r : Int) (m1 m2 m3 : Mem), CupR rest m3 ∧ Tst.ok (.field f lo (lo + r)) ∧ run pr (n + 2) L.law_roll [.cell 0, .int 4] m = .ok (.int lo) m1 ∧
      run pr (n + 2) L.law_some [.cell 0, .lst [.str [102, 114, 111, 109], .str [116, 111], .str [109, 97, 114, 107]]] m1 = .ok (.str (fw f)) m2 ∧ run pr (n + 2) L.law_roll [.cell 0, .int (4 - lo)] m2 = .ok (.int r) m3 := by
    intro n m c
    obtain ⟨lo, m1, c1, l0, l1, e1⟩ := roll_ (n := n + 1) (k := 4) L.h_law_roll c (by omega) (by omega)
    obtain ⟨x, m2, c2, hx, e2⟩ := some_ (n := n) (l := [.str [102, 114, 111, 109], .str [116, 111], .str [109, 97, 114, 107]]) L.h_law_roll L.h_law_some c1 (by simp) (by simp)
    obtain ⟨f, hf, rfl⟩ := is_fw hx
    obtain ⟨r, m3, c3, q0, q1, e3⟩ := roll_ (n := n + 1) (k := 4 - lo) L.h_law_roll c2 (by omega) (by omega)
    exact ⟨f, lo, r, m1, m2, m3, c3, ⟨hf, l0, by omega, by omega⟩, e1, e2, e3⟩
  intro d
  induction d with
  | zero =>
    intro n m c
    obtain ⟨w, m1, c1, w0, w1, e1⟩ := roll_ (n := n + 1) (k := 5) L.h_law_roll c (by omega) (by omega)
    by_cases hw : w < 4
    · obtain ⟨f, lo, r, m2, m3, m4, c4, ok, e2, e3, e4⟩ := two n m1 c1
      refine ⟨_, m4, c4, ok, by simp [Tst.ht], by simp [Tst.sz, NT], ?_⟩
      rw [show n + 0 + 3 = (n + 2) + 1 from rfl, L.r_law_test]
      simp [goP, S_law_test, x_k, x_loc, x_glo, x_bin, x_neg, x_not, x_and, x_or, x_cmp, x_cmp2, x_ite, x_nil, x_cons, x_tup, x_lst, x_ix, x_sl, x_call, x_bf, x_isi, x_rng, x_zip, x_zip3, x_enu, x_rng2, x_comp, x_dget, x_index, x_indexc, x_tell, s_skip, s_seq, s_ex, s_ret, s_asg, s_par, s_ite, s_for, thenS_next, thenS_ret, fin_ret, fin_next, ob_some, obl_bl, bnd_if, lft_if, unl, bnd_ok, bnd_no, lft_some, lft_none, cmpop, truth, e1, asg, PV.lt, vw, hw, e2, mkl, e3, e4, binop, arith, D_non, D_bl, D_int, D_str, D_tup, D_lst, P_non, P_bl, P_int, P_str, P_tup, P_lst, P_nil, P_cons, eqM_d, isIn_t, isIn_l, Tst.enc]
    · have hw4 : w = 4 := by omega
      subst hw4
      cases b with
      | true =>
        obtain ⟨r, m2, c2, l0, l1, e2⟩ := roll_ (n := n + 1) (k := 4) L.h_law_roll c1 (by omega) (by omega)
        refine ⟨.inp r, m2, c2, ⟨l0, by omega⟩, by simp [Tst.ht], by simp [Tst.sz, NT], ?_⟩
        rw [show n + 0 + 3 = (n + 2) + 1 from rfl, L.r_law_test]
        simp [goP, S_law_test, x_k, x_loc, x_glo, x_bin, x_neg, x_not, x_and, x_or, x_cmp, x_cmp2, x_ite, x_nil, x_cons, x_tup, x_lst, x_ix, x_sl, x_call, x_bf, x_isi, x_rng, x_zip, x_zip3, x_enu, x_rng2, x_comp, x_dget, x_index, x_indexc, x_tell, s_skip, s_seq, s_ex, s_ret, s_asg, s_par, s_ite, s_for, thenS_next, thenS_ret, fin_ret, fin_next, ob_some, obl_bl, bnd_if, lft_if, unl, bnd_ok, bnd_no, lft_some, lft_none, cmpop, truth, e1, asg, PV.lt, vw, e2, D_non, D_bl, D_int, D_str, D_tup, D_lst, P_non, P_bl, P_int, P_str, P_tup, P_lst, P_nil, P_cons, eqM_d, isIn_t, isIn_l, PV.eqv, Tst.enc]
      | false =>
        refine ⟨.any, m1, c1, trivial, by simp [Tst.ht], by simp [Tst.sz, NT], ?_⟩
        rw [show n + 0 + 3 = (n + 2) + 1 from rfl, L.r_law_test]
        simp [goP, S_law_test, x_k, x_loc, x_glo, x_bin, x_neg, x_not, x_and, x_or, x_cmp, x_cmp2, x_ite, x_nil, x_cons, x_tup, x_lst, x_ix, x_sl, x_call, x_bf, x_isi, x_rng, x_zip, x_zip3, x_enu, x_rng2, x_comp, x_dget, x_index, x_indexc, x_tell, s_skip, s_seq, s_ex, s_ret, s_asg, s_par, s_ite, s_for, thenS_next, thenS_ret, fin_ret, fin_next, ob_some, obl_bl, bnd_if, lft_if, unl, bnd_ok, bnd_no, lft_some, lft_none, cmpop, truth, e1, asg, PV.lt, vw, D_non, D_bl, D_int, D_str, D_tup, D_lst, P_non, P_bl, P_int, P_str, P_tup, P_lst, P_nil, P_cons, eqM_d, isIn_t, isIn_l, PV.eqv, Tst.enc]
  | succ d ih =>
    intro n m c
    have hd : (0 : Int) < (d : Int) + 1 := by omega
    have np := NT_pos d
    obtain ⟨w, m1, c1, w0, w1, e1⟩ := roll_ (n := n + d + 2) (k := 8) L.h_law_roll c (by omega) (by omega)
    have hs : n + (d + 1) + 3 = (n + d + 3) + 1 := by omega
    by_cases hw : w < 4
    · obtain ⟨f, lo, r, m2, m3, m4, c4, ok, e2, e3, e4⟩ := two (n + d + 1) m1 c1
      refine ⟨_, m4, c4, ok, by simp [Tst.ht], by simp [Tst.sz, NT], ?_⟩
      rw [hs, L.r_law_test]
      simp [goP, S_law_test, x_k, x_loc, x_glo, x_bin, x_neg, x_not, x_and, x_or, x_cmp, x_cmp2, x_ite, x_nil, x_cons, x_tup, x_lst, x_ix, x_sl, x_call, x_bf, x_isi, x_rng, x_zip, x_zip3, x_enu, x_rng2, x_comp, x_dget, x_index, x_indexc, x_tell, s_skip, s_seq, s_ex, s_ret, s_asg, s_par, s_ite, s_for, thenS_next, thenS_ret, fin_ret, fin_next, ob_some, obl_bl, bnd_if, lft_if, unl, bnd_ok, bnd_no, lft_some, lft_none, cmpop, truth, e1, asg, PV.lt, vw, hw, e2, mkl, e3, e4, binop, arith, D_non, D_bl, D_int, D_str, D_tup, D_lst, P_non, P_bl, P_int, P_str, P_tup, P_lst, P_nil, P_cons, eqM_d, isIn_t, isIn_l, Tst.enc, hd]
    · by_cases hw4 : w = 4
      · subst hw4
        cases b with
        | true =>
          obtain ⟨r, m2, c2, l0, l1, e2⟩ := roll_ (n := n + d + 2) (k := 4) L.h_law_roll c1 (by omega) (by omega)
          refine ⟨.inp r, m2, c2, ⟨l0, by omega⟩, by simp [Tst.ht], by simp [Tst.sz, NT], ?_⟩
          rw [hs, L.r_law_test]
          simp [goP, S_law_test, x_k, x_loc, x_glo, x_bin, x_neg, x_not, x_and, x_or, x_cmp, x_cmp2, x_ite, x_nil, x_cons, x_tup, x_lst, x_ix, x_sl, x_call, x_bf, x_isi, x_rng, x_zip, x_zip3, x_enu, x_rng2, x_comp, x_dget, x_index, x_indexc, x_tell, s_skip, s_seq, s_ex, s_ret, s_asg, s_par, s_ite, s_for, thenS_next, thenS_ret, fin_ret, fin_next, ob_some, obl_bl, bnd_if, lft_if, unl, bnd_ok, bnd_no, lft_some, lft_none, cmpop, truth, e1, asg, PV.lt, vw, e2, D_non, D_bl, D_int, D_str, D_tup, D_lst, P_non, P_bl, P_int, P_str, P_tup, P_lst, P_nil, P_cons, eqM_d, isIn_t, isIn_l, PV.eqv, Tst.enc, hd]
        | false =>
          refine ⟨.any, m1, c1, trivial, by simp [Tst.ht], by simp [Tst.sz, NT], ?_⟩
          rw [hs, L.r_law_test]
          simp [goP, S_law_test, x_k, x_loc, x_glo, x_bin, x_neg, x_not, x_and, x_or, x_cmp, x_cmp2, x_ite, x_nil, x_cons, x_tup, x_lst, x_ix, x_sl, x_call, x_bf, x_isi, x_rng, x_zip, x_zip3, x_enu, x_rng2, x_comp, x_dget, x_index, x_indexc, x_tell, s_skip, s_seq, s_ex, s_ret, s_asg, s_par, s_ite, s_for, thenS_next, thenS_ret, fin_ret, fin_next, ob_some, obl_bl, bnd_if, lft_if, unl, bnd_ok, bnd_no, lft_some, lft_none, cmpop, truth, e1, asg, PV.lt, vw, D_non, D_bl, D_int, D_str, D_tup, D_lst, P_non, P_bl, P_int, P_str, P_tup, P_lst, P_nil, P_cons, eqM_d, isIn_t, isIn_l, PV.eqv, Tst.enc, hd]
      · by_cases hw5 : w = 5
        · subst hw5
          obtain ⟨t, m2, c2, ok, h1, h2, e2⟩ := ih n m1 c1
          refine ⟨.not t, m2, c2, ok, by simp [Tst.ht]; omega, by simp [Tst.sz, NT]; omega, ?_⟩
          rw [hs, L.r_law_test]
          simp [goP, S_law_test, x_k, x_loc, x_glo, x_bin, x_neg, x_not, x_and, x_or, x_cmp, x_cmp2, x_ite, x_nil, x_cons, x_tup, x_lst, x_ix, x_sl, x_call, x_bf, x_isi, x_rng, x_zip, x_zip3, x_enu, x_rng2, x_comp, x_dget, x_index, x_indexc, x_tell, s_skip, s_seq, s_ex, s_ret, s_asg, s_par, s_ite, s_for, thenS_next, thenS_ret, fin_ret, fin_next, ob_some, obl_bl, bnd_if, lft_if, unl, bnd_ok, bnd_no, lft_some, lft_none, cmpop, truth, e1, asg, PV.lt, vw, hd, e2, D_non, D_bl, D_int, D_str, D_tup, D_lst, P_non, P_bl, P_int, P_str, P_tup, P_lst, P_nil, P_cons, eqM_d, isIn_t, isIn_l, PV.eqv, binop, arith, t.enc_D, Tst.enc]
        · obtain ⟨x, m2, c2, hx, e2⟩ := some_ (n := n + d + 1) (l := [.str [97, 110, 100], .str [111, 114]]) L.h_law_roll L.h_law_some c1 (by simp) (by simp)
          obtain ⟨t, m3, c3, ok1, h1, h2, e3⟩ := ih n m2 c2
          obtain ⟨u, m4, c4, ok2, h3, h4, e4⟩ := ih n m3 c3
          simp at hx
          rcases hx with rfl | rfl
          · refine ⟨.and t u, m4, c4, ⟨ok1, ok2⟩, by simp [Tst.ht]; omega, by simp [Tst.sz, NT]; omega, ?_⟩
            rw [hs, L.r_law_test]
            simp [goP, S_law_test, x_k, x_loc, x_glo, x_bin, x_neg, x_not, x_and, x_or, x_cmp, x_cmp2, x_ite, x_nil, x_cons, x_tup, x_lst, x_ix, x_sl, x_call, x_bf, x_isi, x_rng, x_zip, x_zip3, x_enu, x_rng2, x_comp, x_dget, x_index, x_indexc, x_tell, s_skip, s_seq, s_ex, s_ret, s_asg, s_par, s_ite, s_for, thenS_next, thenS_ret, fin_ret, fin_next, ob_some, obl_bl, bnd_if, lft_if, unl, bnd_ok, bnd_no, lft_some, lft_none, cmpop, truth, e1, asg, PV.lt, vw, hd, e2, e3, e4, hw, hw4, hw5, D_non, D_bl, D_int, D_str, D_tup, D_lst, P_non, P_bl, P_int, P_str, P_tup, P_lst, P_nil, P_cons, eqM_d, isIn_t, isIn_l, PV.eqv, binop, arith, t.enc_D, u.enc_D, Tst.enc, mkl]
          · refine ⟨.or t u, m4, c4, ⟨ok1, ok2⟩, by simp [Tst.ht]; omega, by simp [Tst.sz, NT]; omega, ?_⟩
            rw [hs, L.r_law_test]
            simp [goP, S_law_test, x_k, x_loc, x_glo, x_bin, x_neg, x_not, x_and, x_or, x_cmp, x_cmp2, x_ite, x_nil, x_cons, x_tup, x_lst, x_ix, x_sl, x_call, x_bf, x_isi, x_rng, x_zip, x_zip3, x_enu, x_rng2, x_comp, x_dget, x_index, x_indexc, x_tell, s_skip, s_seq, s_ex, s_ret, s_asg, s_par, s_ite, s_for, thenS_next, thenS_ret, fin_ret, fin_next, ob_some, obl_bl, bnd_if, lft_if, unl, bnd_ok, bnd_no, lft_some, lft_none, cmpop, truth, e1, asg, PV.lt, vw, hd, e2, e3, e4, hw, hw4, hw5, D_non, D_bl, D_int, D_str, D_tup, D_lst, P_non, P_bl, P_int, P_str, P_tup, P_lst, P_nil, P_cons, eqM_d, isIn_t, isIn_l, PV.eqv, binop, arith, t.enc_D, u.enc_D, Tst.enc, mkl]
end
end Pv
set_option maxHeartbeats 4000000
namespace Pv
/-! ### drawn policies -/
def NPz : Nat → Nat
  | 0 => 1
  | d + 1 => 2 * NPz d + 4
def swv (ws : List Int) : PV := .tup (ws.map .int)
theorem is_sw {x : PV} (h : x ∈ [PV.tup [.int 0], .tup [.int 1], .tup [.int 0, .int 1], .tup [.int 1, .int 2], .tup [.int 0, .int 2, .int 3]]) : ∃ ws, ws ∈ swL ∧ x = .tup (ws.map .int) := by
  simp at h
  rcases h with rfl | rfl | rfl | rfl | rfl
  · exact ⟨[0], by decide, rfl⟩
  · exact ⟨[1], by decide, rfl⟩
  · exact ⟨[0, 1], by decide, rfl⟩
  · exact ⟨[1, 2], by decide, rfl⟩
  · exact ⟨[0, 2, 3], by decide, rfl⟩
section
variable {pr : Prg} {rest : List (List PV)}
theorem NPz_pos (d : Nat) : 1 ≤ NPz d := by cases d <;> simp [NPz]
theorem draw_policy (L : DrawLib pr) : ∀ (d n : Nat) (m : Mem), CupR rest m → ∃ (t : Pol) (m' : Mem), CupR rest m' ∧ t.ok ∧ t.ht ≤ d + 2 ∧ t.sz ≤ NPz d ∧ t.dp ≤ d ∧ run pr (n + d + 5) L.law_policy [.cell 0, .int d] m = .ok t.enc m' := by
  have leaf : ∀ n m, CupR rest m → ∃ (t : Pol) (m1 : Mem), CupR rest m1 ∧ (t = .drop ∨ t = .pass) ∧ run pr (n + 2) L.law_some [.cell 0, .lst [PV.tup [.str [100, 114, 111, 112]], .tup [.str [112, 97, 115, 115]], .tup [.str [112, 97, 115, 115]]]] m = .ok t.enc m1 := by
    intro n m c
    obtain ⟨x, m2, c2, hx, e2⟩ := some_ (n := n) (l := [PV.tup [.str [100, 114, 111, 112]], .tup [.str [112, 97, 115, 115]], .tup [.str [112, 97, 115, 115]]]) L.h_law_roll L.h_law_some c (by simp) (by simp)
    simp at hx
    rcases hx with rfl | rfl
    · exact ⟨.drop, m2, c2, .inl rfl, e2⟩
    · exact ⟨.pass, m2, c2, .inr rfl, e2⟩
  have setd : ∀ n m, CupR rest m → ∃ (f : Nat) (v : Int) (m1 m2 : Mem), CupR rest m2 ∧ Pol.ok (.set f v) ∧ run pr (n + 2) L.law_some [.cell 0, .lst [.str [102, 114, 111, 109], .str [116, 111], .str [109, 97, 114, 107]]] m = .ok (.str (fw f)) m1 ∧ run pr (n + 2) L.law_roll [.cell 0, .int 4] m1 = .ok (.int v) m2 := by
    intro n m c
    obtain ⟨x, m2, c2, hx, e2⟩ := some_ (n := n) (l := [.str [102, 114, 111, 109], .str [116, 111], .str [109, 97, 114, 107]]) L.h_law_roll L.h_law_some c (by simp) (by simp)
    obtain ⟨f, hf, rfl⟩ := is_fw hx
    obtain ⟨v, m3, c3, q0, q1, e3⟩ := roll_ (n := n + 1) (k := 4) L.h_law_roll c2 (by omega) (by omega)
    exact ⟨f, v, m2, m3, c3, ⟨hf, q0, by omega⟩, e2, e3⟩
  intro d
  induction d with
  | zero =>
    intro n m c
    obtain ⟨w, m1, c1, w0, w1, e1⟩ := roll_ (n := n + 3) (k := 4) L.h_law_roll c (by omega) (by omega)
    by_cases hw : w = 0
    · subst hw
      obtain ⟨t, m2, c2, ht, e2⟩ := leaf (n + 2) m1 c1
      refine ⟨t, m2, c2, by rcases ht with rfl | rfl <;> trivial, by rcases ht with rfl | rfl <;> simp [Pol.ht], by rcases ht with rfl | rfl <;> simp [Pol.sz, NPz], by rcases ht with rfl | rfl <;> simp [Pol.dp], ?_⟩
      rw [show n + 0 + 5 = (n + 4) + 1 from rfl, L.r_law_policy]
      simp [goP, S_law_policy, x_k, x_loc, x_glo, x_bin, x_neg, x_not, x_and, x_or, x_cmp, x_cmp2, x_ite, x_nil, x_cons, x_tup, x_lst, x_ix, x_sl, x_call, x_bf, x_isi, x_rng, x_zip, x_zip3, x_enu, x_rng2, x_comp, x_dget, x_index, x_indexc, x_tell, s_skip, s_seq, s_ex, s_ret, s_asg, s_par, s_ite, s_for, thenS_next, thenS_ret, fin_ret, fin_next, ob_some, obl_bl, bnd_if, lft_if, unl, bnd_ok, bnd_no, lft_some, lft_none, cmpop, truth, e1, asg, D_non, D_bl, D_int, D_str, D_tup, D_lst, P_non, P_bl, P_int, P_str, P_tup, P_lst, P_nil, P_cons, eqM_d, isIn_t, isIn_l, PV.eqv, mkl, e2]
    · by_cases hw2 : w = 1
      · subst hw2
        obtain ⟨f, v, m2, m3, c3, ok, e2, e3⟩ := setd (n + 2) m1 c1
        refine ⟨.set f v, m3, c3, ok, by simp [Pol.ht], by simp [Pol.sz, NPz], by simp [Pol.dp], ?_⟩
        rw [show n + 0 + 5 = (n + 4) + 1 from rfl, L.r_law_policy]
        simp [goP, S_law_policy, x_k, x_loc, x_glo, x_bin, x_neg, x_not, x_and, x_or, x_cmp, x_cmp2, x_ite, x_nil, x_cons, x_tup, x_lst, x_ix, x_sl, x_call, x_bf, x_isi, x_rng, x_zip, x_zip3, x_enu, x_rng2, x_comp, x_dget, x_index, x_indexc, x_tell, s_skip, s_seq, s_ex, s_ret, s_asg, s_par, s_ite, s_for, thenS_next, thenS_ret, fin_ret, fin_next, ob_some, obl_bl, bnd_if, lft_if, unl, bnd_ok, bnd_no, lft_some, lft_none, cmpop, truth, e1, asg, D_non, D_bl, D_int, D_str, D_tup, D_lst, P_non, P_bl, P_int, P_str, P_tup, P_lst, P_nil, P_cons, eqM_d, isIn_t, isIn_l, PV.eqv, mkl, e2, e3, Pol.enc]
      · obtain ⟨r, m3, c3, q0, q1, e3⟩ := roll_ (n := n + 3) (k := 4) L.h_law_roll c1 (by omega) (by omega)
        refine ⟨.out r, m3, c3, ⟨q0, by omega⟩, by simp [Pol.ht], by simp [Pol.sz, NPz], by simp [Pol.dp], ?_⟩
        rw [show n + 0 + 5 = (n + 4) + 1 from rfl, L.r_law_policy]
        simp [goP, S_law_policy, x_k, x_loc, x_glo, x_bin, x_neg, x_not, x_and, x_or, x_cmp, x_cmp2, x_ite, x_nil, x_cons, x_tup, x_lst, x_ix, x_sl, x_call, x_bf, x_isi, x_rng, x_zip, x_zip3, x_enu, x_rng2, x_comp, x_dget, x_index, x_indexc, x_tell, s_skip, s_seq, s_ex, s_ret, s_asg, s_par, s_ite, s_for, thenS_next, thenS_ret, fin_ret, fin_next, ob_some, obl_bl, bnd_if, lft_if, unl, bnd_ok, bnd_no, lft_some, lft_none, cmpop, truth, e1, asg, D_non, D_bl, D_int, D_str, D_tup, D_lst, P_non, P_bl, P_int, P_str, P_tup, P_lst, P_nil, P_cons, eqM_d, isIn_t, isIn_l, PV.eqv, mkl, e3, hw, hw2, PV.lt, vw, w1, Pol.enc]
  | succ d ih =>
    intro n m c
    have hd : (0 : Int) < (d : Int) + 1 := by omega
    have np := NPz_pos d
    have hs : n + (d + 1) + 5 = (n + d + 5) + 1 := by omega
    obtain ⟨w, m1, c1, w0, w1, e1⟩ := roll_ (n := n + d + 4) (k := 9) L.h_law_roll c (by omega) (by omega)
    by_cases hw : w = 0
    · subst hw
      obtain ⟨t, m2, c2, ht, e2⟩ := leaf (n + d + 3) m1 c1
      refine ⟨t, m2, c2, by rcases ht with rfl | rfl <;> trivial, by rcases ht with rfl | rfl <;> simp [Pol.ht], by rcases ht with rfl | rfl <;> simp [Pol.sz, NPz], by rcases ht with rfl | rfl <;> simp [Pol.dp], ?_⟩
      rw [hs, L.r_law_policy]
      simp [goP, S_law_policy, x_k, x_loc, x_glo, x_bin, x_neg, x_not, x_and, x_or, x_cmp, x_cmp2, x_ite, x_nil, x_cons, x_tup, x_lst, x_ix, x_sl, x_call, x_bf, x_isi, x_rng, x_zip, x_zip3, x_enu, x_rng2, x_comp, x_dget, x_index, x_indexc, x_tell, s_skip, s_seq, s_ex, s_ret, s_asg, s_par, s_ite, s_for, thenS_next, thenS_ret, fin_ret, fin_next, ob_some, obl_bl, bnd_if, lft_if, unl, bnd_ok, bnd_no, lft_some, lft_none, cmpop, truth, e1, asg, D_non, D_bl, D_int, D_str, D_tup, D_lst, P_non, P_bl, P_int, P_str, P_tup, P_lst, P_nil, P_cons, eqM_d, isIn_t, isIn_l, PV.eqv, mkl, e2, hd]
    · by_cases hw2 : w = 1
      · subst hw2
        obtain ⟨f, v, m2, m3, c3, ok, e2, e3⟩ := setd (n + d + 3) m1 c1
        refine ⟨.set f v, m3, c3, ok, by simp [Pol.ht], by simp [Pol.sz, NPz], by simp [Pol.dp], ?_⟩
        rw [hs, L.r_law_policy]
        simp [goP, S_law_policy, x_k, x_loc, x_glo, x_bin, x_neg, x_not, x_and, x_or, x_cmp, x_cmp2, x_ite, x_nil, x_cons, x_tup, x_lst, x_ix, x_sl, x_call, x_bf, x_isi, x_rng, x_zip, x_zip3, x_enu, x_rng2, x_comp, x_dget, x_index, x_indexc, x_tell, s_skip, s_seq, s_ex, s_ret, s_asg, s_par, s_ite, s_for, thenS_next, thenS_ret, fin_ret, fin_next, ob_some, obl_bl, bnd_if, lft_if, unl, bnd_ok, bnd_no, lft_some, lft_none, cmpop, truth, e1, asg, D_non, D_bl, D_int, D_str, D_tup, D_lst, P_non, P_bl, P_int, P_str, P_tup, P_lst, P_nil, P_cons, eqM_d, isIn_t, isIn_l, PV.eqv, mkl, e2, e3, Pol.enc, hd]
      · by_cases hw3 : w < 4
        · obtain ⟨r, m3, c3, q0, q1, e3⟩ := roll_ (n := n + d + 4) (k := 4) L.h_law_roll c1 (by omega) (by omega)
          refine ⟨.out r, m3, c3, ⟨q0, by omega⟩, by simp [Pol.ht], by simp [Pol.sz, NPz], by simp [Pol.dp], ?_⟩
          rw [hs, L.r_law_policy]
          simp [goP, S_law_policy, x_k, x_loc, x_glo, x_bin, x_neg, x_not, x_and, x_or, x_cmp, x_cmp2, x_ite, x_nil, x_cons, x_tup, x_lst, x_ix, x_sl, x_call, x_bf, x_isi, x_rng, x_zip, x_zip3, x_enu, x_rng2, x_comp, x_dget, x_index, x_indexc, x_tell, s_skip, s_seq, s_ex, s_ret, s_asg, s_par, s_ite, s_for, thenS_next, thenS_ret, fin_ret, fin_next, ob_some, obl_bl, bnd_if, lft_if, unl, bnd_ok, bnd_no, lft_some, lft_none, cmpop, truth, e1, asg, D_non, D_bl, D_int, D_str, D_tup, D_lst, P_non, P_bl, P_int, P_str, P_tup, P_lst, P_nil, P_cons, eqM_d, isIn_t, isIn_l, PV.eqv, mkl, e3, hw, hw2, PV.lt, vw, hw3, Pol.enc, hd]
        · by_cases hw8 : w = 8
          · subst hw8
            obtain ⟨x, m2, c2, hx, e2⟩ := some_ (n := n + d + 3) (l := [PV.tup [.int 0], .tup [.int 1], .tup [.int 0, .int 1], .tup [.int 1, .int 2], .tup [.int 0, .int 2, .int 3]]) L.h_law_roll L.h_law_some c1 (by simp) (by simp)
            obtain ⟨ws, hws, rfl⟩ := is_sw hx
            obtain ⟨t, m3, c3, ok, h1, h2, h3, e3⟩ := ih n m2 c2
            refine ⟨.at_ ws t, m3, c3, ⟨hws, ok⟩, by simp [Pol.ht]; omega, by simp [Pol.sz, NPz]; omega, by simp [Pol.dp]; omega, ?_⟩
            rw [hs, L.r_law_policy]
            simp [goP, S_law_policy, x_k, x_loc, x_glo, x_bin, x_neg, x_not, x_and, x_or, x_cmp, x_cmp2, x_ite, x_nil, x_cons, x_tup, x_lst, x_ix, x_sl, x_call, x_bf, x_isi, x_rng, x_zip, x_zip3, x_enu, x_rng2, x_comp, x_dget, x_index, x_indexc, x_tell, s_skip, s_seq, s_ex, s_ret, s_asg, s_par, s_ite, s_for, thenS_next, thenS_ret, fin_ret, fin_next, ob_some, obl_bl, bnd_if, lft_if, unl, bnd_ok, bnd_no, lft_some, lft_none, cmpop, truth, e1, asg, D_non, D_bl, D_int, D_str, D_tup, D_lst, P_non, P_bl, P_int, P_str, P_tup, P_lst, P_nil, P_cons, eqM_d, isIn_t, isIn_l, PV.eqv, mkl, e2, e3, PV.lt, vw, hd, binop, arith, t.enc_D, Pol.enc]
          · by_cases hw7 : w = 7
            · subst hw7
              obtain ⟨s, m2, c2, ok1, g1, g2, e2⟩ := draw_test L (b := true) 1 (n + d + 1) m1 c1
              obtain ⟨t, m3, c3, ok2, h1, h2, h3, e3⟩ := ih n m2 c2
              obtain ⟨u, m4, c4, ok3, k1, k2, k3, e4⟩ := ih n m3 c3
              have e2 : run pr (n + d + 5) L.law_test [.cell 0, .int 1, .bl true] m1 = .ok s.enc m2 := e2
              refine ⟨.ite s t u, m4, c4, ⟨ok1, ok2, ok3⟩, by simp [Pol.ht]; omega, by simp [Pol.sz, NPz]; simp [NT] at g2; omega, by simp [Pol.dp]; omega, ?_⟩
              rw [hs, L.r_law_policy]
              simp [goP, S_law_policy, x_k, x_loc, x_glo, x_bin, x_neg, x_not, x_and, x_or, x_cmp, x_cmp2, x_ite, x_nil, x_cons, x_tup, x_lst, x_ix, x_sl, x_call, x_bf, x_isi, x_rng, x_zip, x_zip3, x_enu, x_rng2, x_comp, x_dget, x_index, x_indexc, x_tell, s_skip, s_seq, s_ex, s_ret, s_asg, s_par, s_ite, s_for, thenS_next, thenS_ret, fin_ret, fin_next, ob_some, obl_bl, bnd_if, lft_if, unl, bnd_ok, bnd_no, lft_some, lft_none, cmpop, truth, e1, asg, D_non, D_bl, D_int, D_str, D_tup, D_lst, P_non, P_bl, P_int, P_str, P_tup, P_lst, P_nil, P_cons, eqM_d, isIn_t, isIn_l, PV.eqv, mkl, e2, e3, e4, PV.lt, vw, hd, binop, arith, s.enc_D, t.enc_D, u.enc_D, Pol.enc]
            · obtain ⟨t, m3, c3, ok2, h1, h2, h3, e3⟩ := ih n m1 c1
              obtain ⟨u, m4, c4, ok3, k1, k2, k3, e4⟩ := ih n m3 c3
              by_cases hw6 : w = 6
              · subst hw6
                refine ⟨.both t u, m4, c4, ⟨ok2, ok3⟩, by simp [Pol.ht]; omega, by simp [Pol.sz, NPz]; omega, by simp [Pol.dp]; omega, ?_⟩
                rw [hs, L.r_law_policy]
                simp [goP, S_law_policy, x_k, x_loc, x_glo, x_bin, x_neg, x_not, x_and, x_or, x_cmp, x_cmp2, x_ite, x_nil, x_cons, x_tup, x_lst, x_ix, x_sl, x_call, x_bf, x_isi, x_rng, x_zip, x_zip3, x_enu, x_rng2, x_comp, x_dget, x_index, x_indexc, x_tell, s_skip, s_seq, s_ex, s_ret, s_asg, s_par, s_ite, s_for, thenS_next, thenS_ret, fin_ret, fin_next, ob_some, obl_bl, bnd_if, lft_if, unl, bnd_ok, bnd_no, lft_some, lft_none, cmpop, truth, e1, asg, D_non, D_bl, D_int, D_str, D_tup, D_lst, P_non, P_bl, P_int, P_str, P_tup, P_lst, P_nil, P_cons, eqM_d, isIn_t, isIn_l, PV.eqv, mkl, e3, e4, PV.lt, vw, hd, binop, arith, t.enc_D, u.enc_D, Pol.enc]
              · have hw5 : w < 6 := by omega
                refine ⟨.thn t u, m4, c4, ⟨ok2, ok3⟩, by simp [Pol.ht]; omega, by simp [Pol.sz, NPz]; omega, by simp [Pol.dp]; omega, ?_⟩
                rw [hs, L.r_law_policy]
                simp [goP, S_law_policy, x_k, x_loc, x_glo, x_bin, x_neg, x_not, x_and, x_or, x_cmp, x_cmp2, x_ite, x_nil, x_cons, x_tup, x_lst, x_ix, x_sl, x_call, x_bf, x_isi, x_rng, x_zip, x_zip3, x_enu, x_rng2, x_comp, x_dget, x_index, x_indexc, x_tell, s_skip, s_seq, s_ex, s_ret, s_asg, s_par, s_ite, s_for, thenS_next, thenS_ret, fin_ret, fin_next, ob_some, obl_bl, bnd_if, lft_if, unl, bnd_ok, bnd_no, lft_some, lft_none, cmpop, truth, e1, asg, D_non, D_bl, D_int, D_str, D_tup, D_lst, P_non, P_bl, P_int, P_str, P_tup, P_lst, P_nil, P_cons, eqM_d, isIn_t, isIn_l, PV.eqv, mkl, e3, e4, PV.lt, vw, hd, hw, hw2, hw3, hw5, binop, arith, t.enc_D, u.enc_D, Pol.enc]
/-! ### what a test says, by the law's own words -/
theorem own_says (L : OwnLib pr) {a b c p : Int} : ∀ (t : Tst), t.ok → ∀ (n : Nat) (m : Mem), run pr (n + t.ht) L.law_passes [t.enc, hdr a b c, .int p] m = .ok (.bl (t.says a b c p)) m := by
  intro t
  induction t with
  | any =>
    intro ok n m
    simp only [Tst.ht, Tst.enc]
    rw [L.r_law_passes]
    simp [goP, S_law_passes, x_k, x_loc, x_glo, x_bin, x_neg, x_not, x_and, x_or, x_cmp, x_cmp2, x_ite, x_nil, x_cons, x_tup, x_lst, x_ix, x_sl, x_call, x_bf, x_isi, x_rng, x_zip, x_zip3, x_enu, x_rng2, x_comp, x_dget, x_index, x_indexc, x_tell, s_skip, s_seq, s_ex, s_ret, s_asg, s_par, s_ite, s_for, thenS_next, thenS_ret, fin_ret, fin_next, ob_some, obl_bl, bnd_if, lft_if, unl, bnd_ok, bnd_no, lft_some, lft_none, truth, cmpop, D_non, D_bl, D_int, D_str, D_tup, D_lst, P_non, P_bl, P_int, P_str, P_tup, P_lst, P_nil, P_cons, eqM_d, isIn_t, isIn_l, PV.eqv, asg, item, vw, atI, Tst.says]
  | field f lo hi =>
    intro ok n m
    simp only [Tst.ht, Tst.enc]
    rw [L.r_law_passes]
    have h3 := ok.1
    have key : ∀ x : Int, (if (lo ≤ x) then (R.ok (PV.bl (decide (x ≤ hi))) m) else R.ok (PV.bl false) m) = R.ok (PV.bl (decide (lo ≤ x) && decide (x ≤ hi))) m := fun x => by by_cases h : lo ≤ x <;> simp [h]
    rcases f with _ | _ | _ | f
    · simp [goP, S_law_passes, x_k, x_loc, x_glo, x_bin, x_neg, x_not, x_and, x_or, x_cmp, x_cmp2, x_ite, x_nil, x_cons, x_tup, x_lst, x_ix, x_sl, x_call, x_bf, x_isi, x_rng, x_zip, x_zip3, x_enu, x_rng2, x_comp, x_dget, x_index, x_indexc, x_tell, s_skip, s_seq, s_ex, s_ret, s_asg, s_par, s_ite, s_for, thenS_next, thenS_ret, fin_ret, fin_next, ob_some, obl_bl, bnd_if, lft_if, unl, bnd_ok, bnd_no, lft_some, lft_none, truth, cmpop, D_non, D_bl, D_int, D_str, D_tup, D_lst, P_non, P_bl, P_int, P_str, P_tup, P_lst, P_nil, P_cons, eqM_d, isIn_t, isIn_l, eqv_ss, asg, item_t, atI, Tst.says, mkl, fw, fld, key, vw_s, List.findIdx?_cons]
    · simp [goP, S_law_passes, x_k, x_loc, x_glo, x_bin, x_neg, x_not, x_and, x_or, x_cmp, x_cmp2, x_ite, x_nil, x_cons, x_tup, x_lst, x_ix, x_sl, x_call, x_bf, x_isi, x_rng, x_zip, x_zip3, x_enu, x_rng2, x_comp, x_dget, x_index, x_indexc, x_tell, s_skip, s_seq, s_ex, s_ret, s_asg, s_par, s_ite, s_for, thenS_next, thenS_ret, fin_ret, fin_next, ob_some, obl_bl, bnd_if, lft_if, unl, bnd_ok, bnd_no, lft_some, lft_none, truth, cmpop, D_non, D_bl, D_int, D_str, D_tup, D_lst, P_non, P_bl, P_int, P_str, P_tup, P_lst, P_nil, P_cons, eqM_d, isIn_t, isIn_l, eqv_ss, asg, item_t, atI, Tst.says, mkl, fw, fld, key, vw_s, List.findIdx?_cons]
    · simp [goP, S_law_passes, x_k, x_loc, x_glo, x_bin, x_neg, x_not, x_and, x_or, x_cmp, x_cmp2, x_ite, x_nil, x_cons, x_tup, x_lst, x_ix, x_sl, x_call, x_bf, x_isi, x_rng, x_zip, x_zip3, x_enu, x_rng2, x_comp, x_dget, x_index, x_indexc, x_tell, s_skip, s_seq, s_ex, s_ret, s_asg, s_par, s_ite, s_for, thenS_next, thenS_ret, fin_ret, fin_next, ob_some, obl_bl, bnd_if, lft_if, unl, bnd_ok, bnd_no, lft_some, lft_none, truth, cmpop, D_non, D_bl, D_int, D_str, D_tup, D_lst, P_non, P_bl, P_int, P_str, P_tup, P_lst, P_nil, P_cons, eqM_d, isIn_t, isIn_l, eqv_ss, asg, item_t, atI, Tst.says, mkl, fw, fld, key, vw_s, List.findIdx?_cons]
    · omega
  | inp q =>
    intro ok n m
    simp only [Tst.ht, Tst.enc]
    rw [L.r_law_passes]
    simp [goP, S_law_passes, x_k, x_loc, x_glo, x_bin, x_neg, x_not, x_and, x_or, x_cmp, x_cmp2, x_ite, x_nil, x_cons, x_tup, x_lst, x_ix, x_sl, x_call, x_bf, x_isi, x_rng, x_zip, x_zip3, x_enu, x_rng2, x_comp, x_dget, x_index, x_indexc, x_tell, s_skip, s_seq, s_ex, s_ret, s_asg, s_par, s_ite, s_for, thenS_next, thenS_ret, fin_ret, fin_next, ob_some, obl_bl, bnd_if, lft_if, unl, bnd_ok, bnd_no, lft_some, lft_none, truth, cmpop, D_non, D_bl, D_int, D_str, D_tup, D_lst, P_non, P_bl, P_int, P_str, P_tup, P_lst, P_nil, P_cons, eqM_d, isIn_t, isIn_l, PV.eqv, asg, item, vw, atI, Tst.says]
    by_cases h : p = q <;> simp [h]
  | not a iha =>
    intro ok n m
    simp only [Tst.ht, Tst.enc]
    rw [show n + (a.ht + 1) = (n + a.ht) + 1 from rfl, L.r_law_passes]
    simp [goP, S_law_passes, x_k, x_loc, x_glo, x_bin, x_neg, x_not, x_and, x_or, x_cmp, x_cmp2, x_ite, x_nil, x_cons, x_tup, x_lst, x_ix, x_sl, x_call, x_bf, x_isi, x_rng, x_zip, x_zip3, x_enu, x_rng2, x_comp, x_dget, x_index, x_indexc, x_tell, s_skip, s_seq, s_ex, s_ret, s_asg, s_par, s_ite, s_for, thenS_next, thenS_ret, fin_ret, fin_next, ob_some, obl_bl, bnd_if, lft_if, unl, bnd_ok, bnd_no, lft_some, lft_none, truth, cmpop, D_non, D_bl, D_int, D_str, D_tup, D_lst, P_non, P_bl, P_int, P_str, P_tup, P_lst, P_nil, P_cons, eqM_d, isIn_t, isIn_l, PV.eqv, asg, item, vw, atI, Tst.says, iha ok n, slice, optI, small, cut, bound, compL, cmpB, compT, wipeP, tstB, noexc, mkl]
  | and s t ihs iht =>
    intro ok n m
    simp only [Tst.ht, Tst.enc]
    have r1 := ihs ok.1 (n + (max s.ht t.ht - s.ht))
    have r2 := iht ok.2 (n + (max s.ht t.ht - t.ht))
    rw [show n + (max s.ht t.ht - s.ht) + s.ht = n + max s.ht t.ht by omega] at r1
    rw [show n + (max s.ht t.ht - t.ht) + t.ht = n + max s.ht t.ht by omega] at r2
    rw [show n + (max s.ht t.ht + 1) = (n + max s.ht t.ht) + 1 from rfl, L.r_law_passes]
    simp [goP, S_law_passes, x_k, x_loc, x_glo, x_bin, x_neg, x_not, x_and, x_or, x_cmp, x_cmp2, x_ite, x_nil, x_cons, x_tup, x_lst, x_ix, x_sl, x_call, x_bf, x_isi, x_rng, x_zip, x_zip3, x_enu, x_rng2, x_comp, x_dget, x_index, x_indexc, x_tell, s_skip, s_seq, s_ex, s_ret, s_asg, s_par, s_ite, s_for, thenS_next, thenS_ret, fin_ret, fin_next, ob_some, obl_bl, bnd_if, lft_if, unl, bnd_ok, bnd_no, lft_some, lft_none, truth, cmpop, D_non, D_bl, D_int, D_str, D_tup, D_lst, P_non, P_bl, P_int, P_str, P_tup, P_lst, P_nil, P_cons, eqM_d, isIn_t, isIn_l, PV.eqv, asg, item, vw, atI, Tst.says, r1, r2, slice, optI, small, cut, bound, compL, cmpB, compT, wipeP, tstB, noexc, mkl, anyEq]
    try (cases s.says a b c p <;> cases t.says a b c p <;> simp [x_k, x_loc, x_glo, x_bin, x_neg, x_not, x_and, x_or, x_cmp, x_cmp2, x_ite, x_nil, x_cons, x_tup, x_lst, x_ix, x_sl, x_call, x_bf, x_isi, x_rng, x_zip, x_zip3, x_enu, x_rng2, x_comp, x_dget, x_index, x_indexc, x_tell, s_skip, s_seq, s_ex, s_ret, s_asg, s_par, s_ite, s_for, thenS_next, thenS_ret, fin_ret, fin_next, ob_some, obl_bl, bnd_if, lft_if, unl, bnd_ok, bnd_no, lft_some, lft_none])
  | or s t ihs iht =>
    intro ok n m
    simp only [Tst.ht, Tst.enc]
    have r1 := ihs ok.1 (n + (max s.ht t.ht - s.ht))
    have r2 := iht ok.2 (n + (max s.ht t.ht - t.ht))
    rw [show n + (max s.ht t.ht - s.ht) + s.ht = n + max s.ht t.ht by omega] at r1
    rw [show n + (max s.ht t.ht - t.ht) + t.ht = n + max s.ht t.ht by omega] at r2
    rw [show n + (max s.ht t.ht + 1) = (n + max s.ht t.ht) + 1 from rfl, L.r_law_passes]
    simp [goP, S_law_passes, x_k, x_loc, x_glo, x_bin, x_neg, x_not, x_and, x_or, x_cmp, x_cmp2, x_ite, x_nil, x_cons, x_tup, x_lst, x_ix, x_sl, x_call, x_bf, x_isi, x_rng, x_zip, x_zip3, x_enu, x_rng2, x_comp, x_dget, x_index, x_indexc, x_tell, s_skip, s_seq, s_ex, s_ret, s_asg, s_par, s_ite, s_for, thenS_next, thenS_ret, fin_ret, fin_next, ob_some, obl_bl, bnd_if, lft_if, unl, bnd_ok, bnd_no, lft_some, lft_none, truth, cmpop, D_non, D_bl, D_int, D_str, D_tup, D_lst, P_non, P_bl, P_int, P_str, P_tup, P_lst, P_nil, P_cons, eqM_d, isIn_t, isIn_l, PV.eqv, asg, item, vw, atI, Tst.says, r1, r2, slice, optI, small, cut, bound, compL, cmpB, compT, wipeP, tstB, noexc, mkl, anyEq]
    try (cases s.says a b c p <;> cases t.says a b c p <;> simp [x_k, x_loc, x_glo, x_bin, x_neg, x_not, x_and, x_or, x_cmp, x_cmp2, x_ite, x_nil, x_cons, x_tup, x_lst, x_ix, x_sl, x_call, x_bf, x_isi, x_rng, x_zip, x_zip3, x_enu, x_rng2, x_comp, x_dget, x_index, x_indexc, x_tell, s_skip, s_seq, s_ex, s_ret, s_asg, s_par, s_ite, s_for, thenS_next, thenS_ret, fin_ret, fin_next, ob_some, obl_bl, bnd_if, lft_if, unl, bnd_ok, bnd_no, lft_some, lft_none])
end
end Pv
set_option maxHeartbeats 4000000
namespace Pv
/-! ### right policies are policies -/
section
variable {pr : Prg}
theorem eqv_si {a : List Nat} {i : Int} : (PV.str a).eqv (.int i) = false := by simp [PV.eqv]
theorem leaf_no (L : PolLib pr) {n : Nat} {s : List Nat} {l : List PV} {m : Mem} (h : s ≠ [100, 114, 111, 112] ∧ s ≠ [112, 97, 115, 115] ∧ s ≠ [111, 117, 116] ∧ s ≠ [115, 101, 116]) : run pr (n + 1) L.is_leaf [.tup (.str s :: l)] m = .ok (.bl false) m := by
  obtain ⟨h1, h2, h3, h4⟩ := h
  have e1 : anyEq (.str s) [.str [100, 114, 111, 112], .str [112, 97, 115, 115]] = false := by simp [anyEq, eqv_ss, Ne.symm h1, Ne.symm h2]
  rw [L.r_is_leaf]
  simp [goP, S_is_leaf, x_k, x_loc, x_glo, x_bin, x_neg, x_not, x_and, x_or, x_cmp, x_cmp2, x_ite, x_nil, x_cons, x_tup, x_lst, x_ix, x_sl, x_call, x_bf, x_isi, x_rng, x_zip, x_zip3, x_enu, x_rng2, x_comp, x_dget, x_index, x_indexc, x_tell, s_skip, s_seq, s_ex, s_ret, s_asg, s_par, s_ite, s_for, thenS_next, thenS_ret, fin_ret, fin_next, ob_some, obl_bl, bnd_if, lft_if, unl, bnd_ok, bnd_no, lft_some, lft_none, truth, cmpop, D_non, D_bl, D_int, D_str, D_tup, D_lst, P_non, P_bl, P_int, P_str, P_tup, P_lst, P_nil, P_cons, eqM_d, isIn_t, isIn_l, eqv_ss, item_t, atI, e1, h3, h4]
theorem switches_t (L : PolLib pr) {n : Nat} {ws : List Int} {m : Mem} (h : ws ∈ swL) : run pr (n + 2) L.are_switches [.tup (ws.map .int)] m = .ok (.bl true) m := by
  have w : ∀ (i : Int) (m : Mem), 0 ≤ i → i ≤ 3 → run pr (n + 1) L.is_whole [.int i, .int 0, .int 3] m = .ok (.bl true) m := fun i m h1 h2 => whole_t L.toShLib h1 h2
  simp only [swL, List.mem_cons, List.not_mem_nil, or_false] at h
  rw [L.r_are_switches]
  rcases h with rfl | rfl | rfl | rfl | rfl
  all_goals simp [goP, S_are_switches, x_k, x_loc, x_glo, x_bin, x_neg, x_not, x_and, x_or, x_cmp, x_cmp2, x_ite, x_nil, x_cons, x_tup, x_lst, x_ix, x_sl, x_call, x_bf, x_isi, x_rng, x_zip, x_zip3, x_enu, x_rng2, x_comp, x_dget, x_index, x_indexc, x_tell, s_skip, s_seq, s_ex, s_ret, s_asg, s_par, s_ite, s_for, thenS_next, thenS_ret, fin_ret, fin_next, ob_some, obl_bl, bnd_if, lft_if, unl, bnd_ok, bnd_no, lft_some, lft_none, truth, cmpop, D_non, D_bl, D_int, D_str, D_tup, D_lst, P_non, P_bl, P_int, P_str, P_tup, P_lst, P_nil, P_cons, eqM_d, isIn_t, isIn_l, L.h_SWITCHES, binop, arith, tup_t L.toShLib, compL, cmpB, compT, asg, wipeP, w, tstB, mkl, callB, vw_l, noexc, boolsOf, L.r_is_ascending, S_is_ascending, slice, optI, small, cut, bound, vw_t, zipL, PV.lt, vw_i]
end
end Pv
set_option maxHeartbeats 4000000
namespace Pv
/-! ### right policies are policies -/
section
variable {pr : Prg}
/-- the program counts a right policy's nodes -/
theorem policy_left (L : PolLib pr) : ∀ (t : Pol), t.ok → ∀ (h : Nat) (n : Nat) (k : Int) (m : Mem), t.ht ≤ h → (t.sz : Int) ≤ k → run pr (n + t.ht + 4) L.policy_left [t.enc, .int h, .int k] m = .ok (.int (k - t.sz)) m := by
  intro t
  have common : ∀ (h : Nat) (k : Int), 1 ≤ h → 1 ≤ k → ((h : Int) = 0) = False ∧ (k = 0) = False ∧ (h = 0) = False := fun h k h1 h2 => ⟨by simp; omega, by simp; omega, by simp; omega⟩
  induction t with
  | drop =>
    intro _ h n k m h1 h2
    simp only [Pol.ht, Pol.sz] at h1 h2 ⊢
    obtain ⟨e1, e2, e0⟩ := common h k h1 (by omega)
    have hd : ∀ m, run pr (n + 4) L.is_headed [Pol.enc .drop, .int 1, .int 4] m = .ok (.bl true) m := fun m => head_t L.toShLib (n := n + 2) (by simp)
    rw [show n + 1 + 4 = (n + 4) + 1 from rfl, L.r_policy_left]
    simp only [Pol.enc] at hd ⊢
    simp [goP, S_policy_left, x_k, x_loc, x_glo, x_bin, x_neg, x_not, x_and, x_or, x_cmp, x_cmp2, x_ite, x_nil, x_cons, x_tup, x_lst, x_ix, x_sl, x_call, x_bf, x_isi, x_rng, x_zip, x_zip3, x_enu, x_rng2, x_comp, x_dget, x_index, x_indexc, x_tell, s_skip, s_seq, s_ex, s_ret, s_asg, s_par, s_ite, s_for, thenS_next, thenS_ret, fin_ret, fin_next, ob_some, obl_bl, bnd_if, lft_if, unl, bnd_ok, bnd_no, lft_some, lft_none, truth, cmpop, D_non, D_bl, D_int, D_str, D_tup, D_lst, P_non, P_bl, P_int, P_str, P_tup, P_lst, P_nil, P_cons, eqM_d, isIn_t, isIn_l, eqv_ii, e1, e2, e0, hd, asg, binop, arith, L.r_is_leaf, S_is_leaf, item_t, atI, anyEq, eqv_ss, callB, vw_t, vw_l, vw_s, vw_i, vw_b, eqv_ss, eqv_ii, item_t, atI]
  | pass =>
    intro _ h n k m h1 h2
    simp only [Pol.ht, Pol.sz] at h1 h2 ⊢
    obtain ⟨e1, e2, e0⟩ := common h k h1 (by omega)
    have hd : ∀ m, run pr (n + 4) L.is_headed [Pol.enc .pass, .int 1, .int 4] m = .ok (.bl true) m := fun m => head_t L.toShLib (n := n + 2) (by simp)
    rw [show n + 1 + 4 = (n + 4) + 1 from rfl, L.r_policy_left]
    simp only [Pol.enc] at hd ⊢
    simp [goP, S_policy_left, x_k, x_loc, x_glo, x_bin, x_neg, x_not, x_and, x_or, x_cmp, x_cmp2, x_ite, x_nil, x_cons, x_tup, x_lst, x_ix, x_sl, x_call, x_bf, x_isi, x_rng, x_zip, x_zip3, x_enu, x_rng2, x_comp, x_dget, x_index, x_indexc, x_tell, s_skip, s_seq, s_ex, s_ret, s_asg, s_par, s_ite, s_for, thenS_next, thenS_ret, fin_ret, fin_next, ob_some, obl_bl, bnd_if, lft_if, unl, bnd_ok, bnd_no, lft_some, lft_none, truth, cmpop, D_non, D_bl, D_int, D_str, D_tup, D_lst, P_non, P_bl, P_int, P_str, P_tup, P_lst, P_nil, P_cons, eqM_d, isIn_t, isIn_l, eqv_ii, e1, e2, e0, hd, asg, binop, arith, L.r_is_leaf, S_is_leaf, item_t, atI, anyEq, eqv_ss, callB, vw_t, vw_l, vw_s, vw_i, vw_b, eqv_ss, eqv_ii, item_t, atI]
  | set f v =>
    intro ok h n k m h1 h2
    simp only [Pol.ht, Pol.sz] at h1 h2 ⊢
    obtain ⟨e1, e2, e0⟩ := common h k h1 (by omega)
    have hd : ∀ m, run pr (n + 4) L.is_headed [Pol.enc (.set f v), .int 1, .int 4] m = .ok (.bl true) m := fun m => head_t L.toShLib (n := n + 2) (by simp)
    have w1 : ∀ m, run pr (n + 3) L.is_word_of [.str (fw f), .tup [.str [102, 114, 111, 109], .str [116, 111], .str [109, 97, 114, 107]]] m = .ok (.bl true) m := fun m => word_f L.toShLib
    have w2 : ∀ m, run pr (n + 3) L.is_whole [.int v, .int 0, .int 3] m = .ok (.bl true) m := fun m => whole_t L.toShLib ok.2.1 ok.2.2
    rw [show n + 1 + 4 = (n + 4) + 1 from rfl, L.r_policy_left]
    simp only [Pol.enc] at hd ⊢
    simp [goP, S_policy_left, x_k, x_loc, x_glo, x_bin, x_neg, x_not, x_and, x_or, x_cmp, x_cmp2, x_ite, x_nil, x_cons, x_tup, x_lst, x_ix, x_sl, x_call, x_bf, x_isi, x_rng, x_zip, x_zip3, x_enu, x_rng2, x_comp, x_dget, x_index, x_indexc, x_tell, s_skip, s_seq, s_ex, s_ret, s_asg, s_par, s_ite, s_for, thenS_next, thenS_ret, fin_ret, fin_next, ob_some, obl_bl, bnd_if, lft_if, unl, bnd_ok, bnd_no, lft_some, lft_none, truth, cmpop, D_non, D_bl, D_int, D_str, D_tup, D_lst, P_non, P_bl, P_int, P_str, P_tup, P_lst, P_nil, P_cons, eqM_d, isIn_t, isIn_l, eqv_ii, e1, e2, e0, hd, asg, binop, arith, L.r_is_leaf, S_is_leaf, item_t, atI, anyEq, eqv_ss, callB, vw_t, vw_l, vw_s, vw_i, vw_b, eqv_ss, eqv_ii, item_t, atI, L.h_FIELDS, L.h_HIGH, w1, w2]
  | out p =>
    intro ok h n k m h1 h2
    simp only [Pol.ht, Pol.sz] at h1 h2 ⊢
    obtain ⟨e1, e2, e0⟩ := common h k h1 (by omega)
    have hd : ∀ m, run pr (n + 4) L.is_headed [Pol.enc (.out p), .int 1, .int 4] m = .ok (.bl true) m := fun m => head_t L.toShLib (n := n + 2) (by simp)
    have w2 : ∀ m, run pr (n + 3) L.is_whole [.int p, .int 0, .int 3] m = .ok (.bl true) m := fun m => whole_t L.toShLib ok.1 ok.2
    rw [show n + 1 + 4 = (n + 4) + 1 from rfl, L.r_policy_left]
    simp only [Pol.enc] at hd ⊢
    simp [goP, S_policy_left, x_k, x_loc, x_glo, x_bin, x_neg, x_not, x_and, x_or, x_cmp, x_cmp2, x_ite, x_nil, x_cons, x_tup, x_lst, x_ix, x_sl, x_call, x_bf, x_isi, x_rng, x_zip, x_zip3, x_enu, x_rng2, x_comp, x_dget, x_index, x_indexc, x_tell, s_skip, s_seq, s_ex, s_ret, s_asg, s_par, s_ite, s_for, thenS_next, thenS_ret, fin_ret, fin_next, ob_some, obl_bl, bnd_if, lft_if, unl, bnd_ok, bnd_no, lft_some, lft_none, truth, cmpop, D_non, D_bl, D_int, D_str, D_tup, D_lst, P_non, P_bl, P_int, P_str, P_tup, P_lst, P_nil, P_cons, eqM_d, isIn_t, isIn_l, eqv_ii, e1, e2, e0, hd, asg, binop, arith, L.r_is_leaf, S_is_leaf, item_t, atI, anyEq, eqv_ss, callB, vw_t, vw_l, vw_s, vw_i, vw_b, eqv_ss, eqv_ii, item_t, atI, L.h_PORTS, w2]
  | thn a b iha ihb =>
    intro ok h n k m h1 h2
    simp only [Pol.ht, Pol.sz] at h1 h2 ⊢
    have sa := a.sz_pos
    have sb := b.sz_pos
    obtain ⟨e1, e2, e0⟩ := common h k (by omega) (by omega)
    have hd : ∀ m, run pr (n + max a.ht b.ht + 4) L.is_headed [Pol.enc (.thn a b), .int 1, .int 4] m = .ok (.bl true) m := fun m => head_t L.toShLib (n := n + max a.ht b.ht + 2) (by simp)
    have lf : ∀ m, run pr (n + max a.ht b.ht + 4) L.is_leaf [Pol.enc (.thn a b)] m = .ok (.bl false) m := fun m => leaf_no L (n := n + max a.ht b.ht + 3) (by decide)
    have e3 : 0 ≤ k - 1 := by omega
    have e4 : 0 ≤ k - 1 - a.sz := by omega
    obtain ⟨h', rfl⟩ : ∃ h', h = h' + 1 := ⟨h - 1, by omega⟩
    have ra := iha ok.1 h' (n + (max a.ht b.ht - a.ht)) (k - 1) m (by omega) (by omega)
    have rb := ihb ok.2 h' (n + (max a.ht b.ht - b.ht)) (k - 1 - a.sz) m (by omega) (by omega)
    rw [show n + (max a.ht b.ht - a.ht) + a.ht + 4 = n + max a.ht b.ht + 4 by omega] at ra
    rw [show n + (max a.ht b.ht - b.ht) + b.ht + 4 = n + max a.ht b.ht + 4 by omega] at rb
    rw [show n + (max a.ht b.ht + 1) + 4 = (n + max a.ht b.ht + 4) + 1 by omega, L.r_policy_left]
    simp only [Pol.enc] at hd lf ⊢
    simp [goP, S_policy_left, x_k, x_loc, x_glo, x_bin, x_neg, x_not, x_and, x_or, x_cmp, x_cmp2, x_ite, x_nil, x_cons, x_tup, x_lst, x_ix, x_sl, x_call, x_bf, x_isi, x_rng, x_zip, x_zip3, x_enu, x_rng2, x_comp, x_dget, x_index, x_indexc, x_tell, s_skip, s_seq, s_ex, s_ret, s_asg, s_par, s_ite, s_for, thenS_next, thenS_ret, fin_ret, fin_next, ob_some, obl_bl, bnd_if, lft_if, unl, bnd_ok, bnd_no, lft_some, lft_none, truth, cmpop, D_non, D_bl, D_int, D_str, D_tup, D_lst, P_non, P_bl, P_int, P_str, P_tup, P_lst, P_nil, P_cons, eqM_d, isIn_t, isIn_l, eqv_ii, e1, e2, e0, hd, lf, asg, item_t, atI, binop, arith, callB, vw_t, vw_l, vw_s, vw_i, vw_b, eqv_ss, eqv_ii, item_t, atI, forL, forB_eq, slice, optI, small, cut, bound, e3, ra, e4, rb, L.r_parts_in, S_parts_in, anyEq, eqv_ss, isSame]
    rw [if_neg (by omega), if_pos (by omega), if_pos (by omega)]
    congr 2
    omega
  | both a b iha ihb =>
    intro ok h n k m h1 h2
    simp only [Pol.ht, Pol.sz] at h1 h2 ⊢
    have sa := a.sz_pos
    have sb := b.sz_pos
    obtain ⟨e1, e2, e0⟩ := common h k (by omega) (by omega)
    have hd : ∀ m, run pr (n + max a.ht b.ht + 4) L.is_headed [Pol.enc (.both a b), .int 1, .int 4] m = .ok (.bl true) m := fun m => head_t L.toShLib (n := n + max a.ht b.ht + 2) (by simp)
    have lf : ∀ m, run pr (n + max a.ht b.ht + 4) L.is_leaf [Pol.enc (.both a b)] m = .ok (.bl false) m := fun m => leaf_no L (n := n + max a.ht b.ht + 3) (by decide)
    have e3 : 0 ≤ k - 1 := by omega
    have e4 : 0 ≤ k - 1 - a.sz := by omega
    obtain ⟨h', rfl⟩ : ∃ h', h = h' + 1 := ⟨h - 1, by omega⟩
    have ra := iha ok.1 h' (n + (max a.ht b.ht - a.ht)) (k - 1) m (by omega) (by omega)
    have rb := ihb ok.2 h' (n + (max a.ht b.ht - b.ht)) (k - 1 - a.sz) m (by omega) (by omega)
    rw [show n + (max a.ht b.ht - a.ht) + a.ht + 4 = n + max a.ht b.ht + 4 by omega] at ra
    rw [show n + (max a.ht b.ht - b.ht) + b.ht + 4 = n + max a.ht b.ht + 4 by omega] at rb
    rw [show n + (max a.ht b.ht + 1) + 4 = (n + max a.ht b.ht + 4) + 1 by omega, L.r_policy_left]
    simp only [Pol.enc] at hd lf ⊢
    simp [goP, S_policy_left, x_k, x_loc, x_glo, x_bin, x_neg, x_not, x_and, x_or, x_cmp, x_cmp2, x_ite, x_nil, x_cons, x_tup, x_lst, x_ix, x_sl, x_call, x_bf, x_isi, x_rng, x_zip, x_zip3, x_enu, x_rng2, x_comp, x_dget, x_index, x_indexc, x_tell, s_skip, s_seq, s_ex, s_ret, s_asg, s_par, s_ite, s_for, thenS_next, thenS_ret, fin_ret, fin_next, ob_some, obl_bl, bnd_if, lft_if, unl, bnd_ok, bnd_no, lft_some, lft_none, truth, cmpop, D_non, D_bl, D_int, D_str, D_tup, D_lst, P_non, P_bl, P_int, P_str, P_tup, P_lst, P_nil, P_cons, eqM_d, isIn_t, isIn_l, eqv_ii, e1, e2, e0, hd, lf, asg, item_t, atI, binop, arith, callB, vw_t, vw_l, vw_s, vw_i, vw_b, eqv_ss, eqv_ii, item_t, atI, forL, forB_eq, slice, optI, small, cut, bound, e3, ra, e4, rb, L.r_parts_in, S_parts_in, anyEq, eqv_ss, isSame]
    rw [if_neg (by omega), if_pos (by omega), if_pos (by omega)]
    congr 2
    omega
  | ite t a b iha ihb =>
    intro ok h n k m h1 h2
    simp only [Pol.ht, Pol.sz] at h1 h2 ⊢
    have sa := a.sz_pos
    have sb := b.sz_pos
    have st := t.sz_pos
    obtain ⟨e1, e2, e0⟩ := common h k (by omega) (by omega)
    generalize hM : max t.ht (max a.ht b.ht) = M at h1 ⊢
    have hd : ∀ m, run pr (n + M + 4) L.is_headed [Pol.enc (.ite t a b), .int 1, .int 4] m = .ok (.bl true) m := fun m => head_t L.toShLib (n := n + M + 2) (by simp)
    have lf : ∀ m, run pr (n + M + 4) L.is_leaf [Pol.enc (.ite t a b)] m = .ok (.bl false) m := fun m => leaf_no L (n := n + M + 3) (by decide)
    have e3 : 0 ≤ k - 1 := by omega
    have e4 : 0 ≤ k - 1 - t.sz := by omega
    have e5 : 0 ≤ k - 1 - t.sz - a.sz := by omega
    obtain ⟨h', rfl⟩ : ∃ h', h = h' + 1 := ⟨h - 1, by omega⟩
    have rt := test_left L.toTestLib t ok.1 h' (n + 1 + (M - t.ht)) (k - 1) m (by omega) (by omega)
    have ra := iha ok.2.1 h' (n + (M - a.ht)) (k - 1 - t.sz) m (by omega) (by omega)
    have rb := ihb ok.2.2 h' (n + (M - b.ht)) (k - 1 - t.sz - a.sz) m (by omega) (by omega)
    rw [show n + 1 + (M - t.ht) + t.ht + 3 = n + M + 4 by omega] at rt
    rw [show n + (M - a.ht) + a.ht + 4 = n + M + 4 by omega] at ra
    rw [show n + (M - b.ht) + b.ht + 4 = n + M + 4 by omega] at rb
    rw [show n + (M + 1) + 4 = (n + M + 4) + 1 by omega, L.r_policy_left]
    simp only [Pol.enc] at hd lf ⊢
    simp [goP, S_policy_left, x_k, x_loc, x_glo, x_bin, x_neg, x_not, x_and, x_or, x_cmp, x_cmp2, x_ite, x_nil, x_cons, x_tup, x_lst, x_ix, x_sl, x_call, x_bf, x_isi, x_rng, x_zip, x_zip3, x_enu, x_rng2, x_comp, x_dget, x_index, x_indexc, x_tell, s_skip, s_seq, s_ex, s_ret, s_asg, s_par, s_ite, s_for, thenS_next, thenS_ret, fin_ret, fin_next, ob_some, obl_bl, bnd_if, lft_if, unl, bnd_ok, bnd_no, lft_some, lft_none, truth, cmpop, D_non, D_bl, D_int, D_str, D_tup, D_lst, P_non, P_bl, P_int, P_str, P_tup, P_lst, P_nil, P_cons, eqM_d, isIn_t, isIn_l, eqv_ii, e1, e2, e0, hd, lf, asg, item_t, atI, binop, arith, callB, vw_t, vw_l, vw_s, vw_i, vw_b, eqv_ss, eqv_ii, item_t, atI, forL, forB_eq, slice, optI, small, cut, bound, e3, rt, ra, e4, rb, e5, L.r_parts_in, S_parts_in, anyEq, eqv_ss, isSame]
    rw [if_neg (by omega), if_pos (by omega), if_pos (by omega)]
    congr 2
    omega
  | at_ ws a iha =>
    intro ok h n k m h1 h2
    simp only [Pol.ht, Pol.sz] at h1 h2 ⊢
    have sa := a.sz_pos
    obtain ⟨e1, e2, e0⟩ := common h k (by omega) (by omega)
    have hd : ∀ m, run pr (n + a.ht + 4) L.is_headed [Pol.enc (.at_ ws a), .int 1, .int 4] m = .ok (.bl true) m := fun m => head_t L.toShLib (n := n + a.ht + 2) (by simp)
    have lf : ∀ m, run pr (n + a.ht + 4) L.is_leaf [Pol.enc (.at_ ws a)] m = .ok (.bl false) m := fun m => leaf_no L (n := n + a.ht + 3) (by decide)
    have sw : ∀ m, run pr (n + a.ht + 3) L.are_switches [.tup (ws.map .int)] m = .ok (.bl true) m := fun m => switches_t L (n := n + a.ht + 1) ok.1
    have e3 : 0 ≤ k - 1 := by omega
    obtain ⟨h', rfl⟩ : ∃ h', h = h' + 1 := ⟨h - 1, by omega⟩
    have ra := iha ok.2 h' n (k - 1) m (by omega) (by omega)
    rw [show n + (a.ht + 1) + 4 = (n + a.ht + 4) + 1 by omega, L.r_policy_left]
    simp only [Pol.enc] at hd lf ⊢
    simp [goP, S_policy_left, x_k, x_loc, x_glo, x_bin, x_neg, x_not, x_and, x_or, x_cmp, x_cmp2, x_ite, x_nil, x_cons, x_tup, x_lst, x_ix, x_sl, x_call, x_bf, x_isi, x_rng, x_zip, x_zip3, x_enu, x_rng2, x_comp, x_dget, x_index, x_indexc, x_tell, s_skip, s_seq, s_ex, s_ret, s_asg, s_par, s_ite, s_for, thenS_next, thenS_ret, fin_ret, fin_next, ob_some, obl_bl, bnd_if, lft_if, unl, bnd_ok, bnd_no, lft_some, lft_none, truth, cmpop, D_non, D_bl, D_int, D_str, D_tup, D_lst, P_non, P_bl, P_int, P_str, P_tup, P_lst, P_nil, P_cons, eqM_d, isIn_t, isIn_l, eqv_ii, e1, e2, e0, hd, lf, asg, item_t, atI, binop, arith, callB, vw_t, vw_l, vw_s, vw_i, vw_b, eqv_ss, eqv_ii, item_t, atI, forL, forB_eq, slice, optI, small, cut, bound, e3, ra, L.r_parts_in, S_parts_in, anyEq, eqv_ss, isSame, sw]
    rw [if_neg (by omega), if_pos (by omega)]
    congr 2
    omega
end
end Pv
set_option maxHeartbeats 4000000
namespace Pv
/-! ### right policies are policies -/
section
variable {pr : Prg}
theorem need_policy_t (L : PolLib pr) {t : Pol} {n : Nat} {m : Mem} (ok : t.ok) (h1 : t.ht ≤ 12) (h2 : t.sz ≤ 60) : run pr (n + 18) L.need_policy [t.enc] m = .ok .non m := by
  have r : ∀ m, run pr (n + 16) L.policy_left [t.enc, .int 12, .int 60] m = .ok (.int (60 - t.sz)) m := fun m => by
    have := policy_left L t ok 12 (n + (12 - t.ht)) 60 m h1 (by omega)
    rwa [show n + (12 - t.ht) + t.ht + 4 = n + 16 by omega] at this
  have e : (t.sz : Int) ≤ 60 := by omega
  rw [show n + 18 = (n + 17) + 1 from rfl, L.r_need_policy]
  simp [goP, S_need_policy, x_k, x_loc, x_glo, x_bin, x_neg, x_not, x_and, x_or, x_cmp, x_cmp2, x_ite, x_nil, x_cons, x_tup, x_lst, x_ix, x_sl, x_call, x_bf, x_isi, x_rng, x_zip, x_zip3, x_enu, x_rng2, x_comp, x_dget, x_index, x_indexc, x_tell, s_skip, s_seq, s_ex, s_ret, s_asg, s_par, s_ite, s_for, thenS_next, thenS_ret, fin_ret, fin_next, ob_some, obl_bl, bnd_if, lft_if, unl, bnd_ok, bnd_no, lft_some, lft_none, L.r_fits_policy, S_fits_policy, L.h_HEIGHT, L.h_NODES, r, cmpop, truth]
  intro h
  omega
theorem need_test_t (L : PolLib pr) {t : Tst} {n : Nat} {m : Mem} (ok : t.ok) (h1 : t.ht ≤ 12) (h2 : t.sz ≤ 60) : run pr (n + 18) L.need_test [t.enc] m = .ok .non m := by
  have r : ∀ m, run pr (n + 16) L.test_left [t.enc, .int 12, .int 60] m = .ok (.int (60 - t.sz)) m := fun m => by
    have := Pv.test_left L.toTestLib t ok 12 (n + 1 + (12 - t.ht)) 60 m h1 (by omega)
    rwa [show n + 1 + (12 - t.ht) + t.ht + 3 = n + 16 by omega] at this
  rw [show n + 18 = (n + 17) + 1 from rfl, L.r_need_test]
  simp [goP, S_need_test, x_k, x_loc, x_glo, x_bin, x_neg, x_not, x_and, x_or, x_cmp, x_cmp2, x_ite, x_nil, x_cons, x_tup, x_lst, x_ix, x_sl, x_call, x_bf, x_isi, x_rng, x_zip, x_zip3, x_enu, x_rng2, x_comp, x_dget, x_index, x_indexc, x_tell, s_skip, s_seq, s_ex, s_ret, s_asg, s_par, s_ite, s_for, thenS_next, thenS_ret, fin_ret, fin_next, ob_some, obl_bl, bnd_if, lft_if, unl, bnd_ok, bnd_no, lft_some, lft_none, L.r_fits_test, S_fits_test, L.h_HEIGHT, L.h_NODES, r, cmpop, truth]
  intro h
  omega
theorem need_number_t (L : ShLib pr) {n : Nat} {i lo hi : Int} {m : Mem} (h1 : lo ≤ i) (h2 : i ≤ hi) : run pr (n + 2) L.need_number [.int i, .int lo, .int hi] m = .ok .non m := by
  rw [L.r_need_number]
  simp [goP, S_need_number, x_k, x_loc, x_glo, x_bin, x_neg, x_not, x_and, x_or, x_cmp, x_cmp2, x_ite, x_nil, x_cons, x_tup, x_lst, x_ix, x_sl, x_call, x_bf, x_isi, x_rng, x_zip, x_zip3, x_enu, x_rng2, x_comp, x_dget, x_index, x_indexc, x_tell, s_skip, s_seq, s_ex, s_ret, s_asg, s_par, s_ite, s_for, thenS_next, thenS_ret, fin_ret, fin_next, ob_some, obl_bl, bnd_if, lft_if, unl, bnd_ok, bnd_no, lft_some, lft_none, whole_t L h1 h2, truth]
end
end Pv
set_option maxHeartbeats 4000000
namespace Pv
/-! ## What policies make -/
/-- three fields, a port; -1: not written -/
abbrev Card := Int × Int × Int × Int
def encC (x : Card) : PV := .tup [hdr x.1 x.2.1 x.2.2.1, .int x.2.2.2]
def encA (x : Card) : PV := .tup [.int x.2.2.2, .int x.1, .int x.2.1, .int x.2.2.1]
structure OkC (x : Card) : Prop where
  a : -1 ≤ x.1
  b : -1 ≤ x.2.1
  c : -1 ≤ x.2.2.1
  p : -1 ≤ x.2.2.2
def lay (a x : Int) : Int := if x = -1 then a else x
def putC (f : Nat) (v : Int) (x : Card) : Card := match f with
  | 0 => (v, x.2.1, x.2.2.1, x.2.2.2)
  | 1 => (x.1, v, x.2.2.1, x.2.2.2)
  | _ => (x.1, x.2.1, v, x.2.2.2)
def unite1 (found lot : List Card) : List Card := found ++ lot.filter fun o => !found.contains o
def unite (lots : List (List Card)) : List Card := lots.foldl unite1 []
def insC (x : Card) : List Card → List Card
  | [] => [x]
  | y :: l => if (encC x).eqv (encC y) then y :: l else if (encC x).ltk (encC y) then x :: y :: l else y :: insC x l
def sortC : List Card → List Card
  | [] => []
  | x :: l => insC x (sortC l)
/-- a switch, a header, a port -/
structure At where
  sw : Int
  a : Int
  b : Int
  c : Int
  p : Int
def passAt (A : At) (t : Tst) (x : Card) : Bool := t.says (lay A.a x.1) (lay A.b x.2.1) (lay A.c x.2.2.1) A.p
def pcards (A : At) : Pol → Card → List Card
  | .drop, _ => []
  | .pass, x => [x]
  | .set f v, x => [putC f v x]
  | .out p, x => [(x.1, x.2.1, x.2.2.1, p)]
  | .thn s t, x => unite ((pcards A s x).map (pcards A t))
  | .both s t, x => unite [pcards A s x, pcards A t x]
  | .at_ ws s, x => if ws.contains A.sw then pcards A s x else []
  | .ite t s u, x => if passAt A t x then pcards A s x else pcards A u x
def lcards (A : At) : Pol → Card → List Card
  | .drop, _ => []
  | .pass, x => [x]
  | .set f v, x => [putC f v x]
  | .out p, x => [(x.1, x.2.1, x.2.2.1, p)]
  | .thn s t, x => sortC ((lcards A s x).flatMap (lcards A t))
  | .both s t, x => sortC (lcards A s x ++ lcards A t x)
  | .at_ ws s, x => if ws.contains A.sw then lcards A s x else []
  | .ite t s u, x => if passAt A t x then lcards A s x else lcards A u x
theorem encC_inj {x y : Card} (h : encC x = encC y) : x = y := by
  obtain ⟨a, b, c, p⟩ := x
  obtain ⟨a', b', c', p'⟩ := y
  simp [encC] at h
  obtain ⟨⟨h1, h2, h3⟩, h4⟩ := h
  simp [h1, h2, h3, h4]
theorem encA_inj {x y : Card} (h : encA x = encA y) : x = y := by
  obtain ⟨a, b, c, p⟩ := x
  obtain ⟨a', b', c', p'⟩ := y
  simp [encA] at h
  obtain ⟨h1, h2, h3, h4⟩ := h
  simp [h1, h2, h3, h4]
theorem encC_S (x : Card) : (encC x).keyS = true := by simp [encC, PV.keyS, keySAll]
theorem encC_B (x : Card) : (encC x).keyB = true := by simp [encC, PV.keyB, keyBAll]
theorem encA_S (x : Card) : (encA x).keyS = true := by simp [encA, PV.keyS, keySAll]
theorem encC_D (x : Card) : (encC x).isD = true := rfl
theorem encC_dep (x : Card) : (encC x).dep = 2 := by simp [encC, PV.dep, depAll]
theorem encA_dep (x : Card) : (encA x).dep = 1 := by simp [encA, PV.dep, depAll]
theorem encC_like (x y : Card) : (encC x).like (encC y) = true := by simp [encC, PV.like, likeAll]
theorem encA_like (x y : Card) : (encA x).like (encA y) = true := by simp [encA, PV.like, likeAll]
theorem encC_eqv (x y : Card) : (encC x).eqv (encC y) = decide (x = y) := by
  by_cases h : x = y
  · subst h
    rw [eqv_self (encC_S x)]
    simp
  · rw [eqv_ne (encC_S x) (encC_S y) fun e => h (encC_inj e)]
    simp [h]
theorem any_cards (x : Card) (l : List Card) : anyEq (encC x) (l.map encC) = l.contains x := by
  unfold anyEq
  rw [List.any_map]
  induction l with
  | nil => rfl
  | cons y l ih =>
    rw [List.any_cons, List.contains_cons, ih]
    show ((encC y).eqv (encC x) || _) = _
    rw [encC_eqv]
    congr 1
    by_cases h : y = x
    · subst h; simp
    · simp [h, Ne.symm h]
theorem cards_keyS (l : List Card) : keySAll (l.map encC) = true := by
  induction l with
  | nil => rfl
  | cons x l ih => simp only [List.map_cons, keySAll, encC_S, ih, Bool.and_self]
theorem cards_keyB (l : List Card) : keyBAll (l.map encC) = true := by
  induction l with
  | nil => rfl
  | cons x l ih => simp only [List.map_cons, keyBAll, encC_B, ih, Bool.and_self]
theorem acts_keyS (l : List Card) : keySAll (l.map encA) = true := by
  induction l with
  | nil => rfl
  | cons x l ih => simp only [List.map_cons, keySAll, encA_S, ih, Bool.and_self]
theorem cards_dep (l : List Card) : depAll (l.map encC) ≤ 2 := by
  induction l with
  | nil => simp [depAll]
  | cons x l ih => simp only [List.map_cons, depAll, encC_dep]; omega
theorem acts_dep (l : List Card) : depAll (l.map encA) ≤ 1 := by
  induction l with
  | nil => simp [depAll]
  | cons x l ih => simp only [List.map_cons, depAll, encA_dep]; omega
theorem cards_sortable (l : List Card) : sortable (l.map encC) = true := by
  unfold sortable
  rw [cards_keyS]
  have h1 : (l.map encC).all (fun x => (l.map encC).all fun y => x.like y) = true := by simp [encC_like]
  have h2 : (l.map encC).all PV.tup1 = true := by simp [encC, PV.tup1]
  rw [h1, h2]
  rfl
theorem acts_sortable (l : List Card) : sortable (l.map encA) = true := by
  unfold sortable
  rw [acts_keyS]
  have h1 : (l.map encA).all (fun x => (l.map encA).all fun y => x.like y) = true := by simp [encA_like]
  have h2 : (l.map encA).all PV.tup1 = true := by simp [encA, PV.tup1]
  rw [h1, h2]
  rfl
theorem cards_setable {l : List Card} (h : l.length < 64) : setable (l.map encC) = true := by
  unfold setable
  rw [cards_keyB]
  have h2 : (l.map encC).all PV.tup1 = true := by simp [encC, PV.tup1]
  have := cards_dep l
  rw [h2]
  simp only [Bool.and_self, Bool.true_and, Bool.and_eq_true, decide_eq_true_eq, List.length_map]
  omega
theorem insC_map (x : Card) : ∀ l : List Card, insN (encC x) (l.map encC) = (insC x l).map encC
  | [] => rfl
  | y :: l => by
    simp only [List.map_cons, insN, insC]
    split
    · rfl
    · split
      · rfl
      · rw [insC_map x l]; rfl
theorem sortC_map : ∀ l : List Card, sortN (l.map encC) = (sortC l).map encC
  | [] => rfl
  | x :: l => by
    simp only [List.map_cons, sortN, sortC]
    rw [sortC_map l, insC_map]
theorem cards_alk (l : List Card) : Alk (l.map encC) := ⟨keySAll_mem (cards_keyS l), fun x hx y hy => by
  obtain ⟨a, _, rfl⟩ := List.mem_map.mp hx
  obtain ⟨b, _, rfl⟩ := List.mem_map.mp hy
  exact encC_like a b⟩
theorem acts_alk (l : List Card) : Alk (l.map encA) := ⟨keySAll_mem (acts_keyS l), fun x hx y hy => by
  obtain ⟨a, _, rfl⟩ := List.mem_map.mp hx
  obtain ⟨b, _, rfl⟩ := List.mem_map.mp hy
  exact encA_like a b⟩
theorem mem_enc {x : Card} {l : List Card} : encC x ∈ l.map encC ↔ x ∈ l := by
  constructor
  · intro h
    obtain ⟨y, hy, e⟩ := List.mem_map.mp h
    rw [← encC_inj e]; exact hy
  · exact fun h => List.mem_map.mpr ⟨x, h, rfl⟩
theorem sortC_mem {x : Card} {l : List Card} : x ∈ sortC l ↔ x ∈ l := by
  rw [← mem_enc, ← sortC_map, sortN_mem (keySAll_mem (cards_keyS l)), mem_enc]
theorem sortC_nodup (l : List Card) : (sortC l).Nodup := by
  have up := sortN_up (cards_alk l)
  rw [sortC_map] at up
  refine List.Pairwise.of_map encC (S := fun a b => a.ltk b = true) (fun a b h e => ?_) up
  subst e
  rw [ltk_irr (encC_S a) (encC_like a a)] at h
  cases h
theorem sortC_len (l : List Card) : (sortC l).length ≤ l.length := by
  have := sortN_le (l.map encC)
  rw [sortC_map] at this
  simpa using this
/-! ### both make the same cards -/
theorem unite1_mem {x : Card} {f l : List Card} : x ∈ unite1 f l ↔ x ∈ f ∨ x ∈ l := by
  unfold unite1
  rw [List.mem_append, List.mem_filter]
  constructor
  · rintro (h | h)
    · exact .inl h
    · exact .inr h.1
  · rintro (h | h)
    · exact .inl h
    · by_cases k : x ∈ f
      · exact .inl k
      · exact .inr ⟨h, by simpa using k⟩
theorem unite1_nodup {f l : List Card} (hf : f.Nodup) (hl : l.Nodup) : (unite1 f l).Nodup := by
  unfold unite1
  refine List.nodup_append.mpr ⟨hf, hl.filter _, fun a ha b hb e => ?_⟩
  subst e
  have := (List.mem_filter.mp hb).2
  simp [ha] at this
theorem unite1_len (f l : List Card) : (unite1 f l).length ≤ f.length + l.length := by
  unfold unite1
  rw [List.length_append]
  have := List.length_filter_le (fun o => !f.contains o) l
  omega
theorem fold_mem {x : Card} : ∀ {lots : List (List Card)} {f : List Card}, x ∈ lots.foldl unite1 f ↔ x ∈ f ∨ ∃ l ∈ lots, x ∈ l
  | [], f => by simp
  | l :: lots, f => by
    rw [List.foldl_cons, fold_mem, unite1_mem]
    constructor
    · rintro ((h | h) | ⟨k, h1, h2⟩)
      · exact .inl h
      · exact .inr ⟨l, by simp, h⟩
      · exact .inr ⟨k, by simp [h1], h2⟩
    · rintro (h | ⟨k, h1, h2⟩)
      · exact .inl (.inl h)
      · rcases List.mem_cons.mp h1 with rfl | h1
        · exact .inl (.inr h2)
        · exact .inr ⟨k, h1, h2⟩
theorem fold_nodup : ∀ {lots : List (List Card)} {f : List Card}, f.Nodup → (∀ l ∈ lots, l.Nodup) → (lots.foldl unite1 f).Nodup
  | [], f, hf, _ => hf
  | l :: lots, f, hf, h => fold_nodup (lots := lots) (f := unite1 f l) (unite1_nodup hf (h l (by simp))) fun k hk => h k (by simp [hk])
theorem pl_same (A : At) : ∀ (p : Pol) (x y : Card), y ∈ pcards A p x ↔ y ∈ lcards A p x := by
  intro p
  induction p with
  | drop => intro x y; simp [pcards, lcards]
  | pass => intro x y; simp [pcards, lcards]
  | set f v => intro x y; simp [pcards, lcards]
  | out q => intro x y; simp [pcards, lcards]
  | thn s t ihs iht =>
    intro x y
    simp only [pcards, lcards, unite, fold_mem, sortC_mem, List.mem_flatMap, List.mem_map, List.not_mem_nil, false_or]
    constructor
    · rintro ⟨l, ⟨z, hz, rfl⟩, h⟩
      exact ⟨z, (ihs x z).mp hz, (iht z y).mp h⟩
    · rintro ⟨z, hz, h⟩
      exact ⟨_, ⟨z, (ihs x z).mpr hz, rfl⟩, (iht z y).mpr h⟩
  | both s t ihs iht =>
    intro x y
    simp only [pcards, lcards, unite, fold_mem, sortC_mem, List.mem_append, List.not_mem_nil, false_or, List.mem_cons, or_false, exists_eq_or_imp, exists_eq_left, ihs, iht]
  | ite t s u ihs ihu =>
    intro x y
    simp only [pcards, lcards]
    split
    · exact ihs x y
    · exact ihu x y
  | at_ ws s ihs =>
    intro x y
    simp only [pcards, lcards]
    split
    · exact ihs x y
    · exact Iff.rfl
theorem p_nodup (A : At) : ∀ (p : Pol) (x : Card), (pcards A p x).Nodup := by
  intro p
  induction p with
  | drop => intro x; simp [pcards]
  | pass => intro x; simp [pcards]
  | set f v => intro x; simp [pcards]
  | out q => intro x; simp [pcards]
  | thn s t ihs iht =>
    intro x
    simp only [pcards, unite]
    refine fold_nodup List.nodup_nil fun l hl => ?_
    obtain ⟨z, _, rfl⟩ := List.mem_map.mp hl
    exact iht z
  | both s t ihs iht =>
    intro x
    simp only [pcards, unite]
    refine fold_nodup List.nodup_nil fun l hl => ?_
    simp at hl
    rcases hl with rfl | rfl
    · exact ihs x
    · exact iht x
  | ite t s u ihs ihu =>
    intro x
    simp only [pcards]
    split
    · exact ihs x
    · exact ihu x
  | at_ ws s ihs =>
    intro x
    simp only [pcards]
    split
    · exact ihs x
    · exact List.nodup_nil
theorem l_nodup (A : At) : ∀ (p : Pol) (x : Card), (lcards A p x).Nodup := by
  intro p
  induction p with
  | drop => intro x; simp [lcards]
  | pass => intro x; simp [lcards]
  | set f v => intro x; simp [lcards]
  | out q => intro x; simp [lcards]
  | thn s t ihs iht => intro x; simp only [lcards]; exact sortC_nodup _
  | both s t ihs iht => intro x; simp only [lcards]; exact sortC_nodup _
  | ite t s u ihs ihu =>
    intro x
    simp only [lcards]
    split
    · exact ihs x
    · exact ihu x
  | at_ ws s ihs =>
    intro x
    simp only [lcards]
    split
    · exact ihs x
    · exact List.nodup_nil
theorem l_ok (A : At) : ∀ (p : Pol), p.ok → ∀ (x : Card), OkC x → ∀ y ∈ lcards A p x, OkC y := by
  intro p
  induction p with
  | drop => intro _ x _ y hy; simp [lcards] at hy
  | pass => intro _ x ok y hy; simp [lcards] at hy; subst hy; exact ok
  | set f v =>
    intro h x ok y hy
    simp [lcards] at hy
    subst hy
    obtain ⟨h1, h2, h3⟩ := h
    rcases f with _ | _ | f
    · exact ⟨by show -1 ≤ v; omega, ok.b, ok.c, ok.p⟩
    · exact ⟨ok.a, by show -1 ≤ v; omega, ok.c, ok.p⟩
    · exact ⟨ok.a, ok.b, by show -1 ≤ v; omega, ok.p⟩
  | out q =>
    intro h x ok y hy
    simp [lcards] at hy
    subst hy
    obtain ⟨h1, h2⟩ := h
    exact ⟨ok.a, ok.b, ok.c, by show -1 ≤ q; omega⟩
  | thn s t ihs iht =>
    intro h x ok y hy
    simp only [lcards, sortC_mem, List.mem_flatMap] at hy
    obtain ⟨z, hz, hy⟩ := hy
    exact iht h.2 z (ihs h.1 x ok z hz) y hy
  | both s t ihs iht =>
    intro h x ok y hy
    simp only [lcards, sortC_mem, List.mem_append] at hy
    rcases hy with hy | hy
    · exact ihs h.1 x ok y hy
    · exact iht h.2 x ok y hy
  | ite t s u ihs ihu =>
    intro h x ok y hy
    simp only [lcards] at hy
    split at hy
    · exact ihs h.2.1 x ok y hy
    · exact ihu h.2.2 x ok y hy
  | at_ ws s ihs =>
    intro h x ok y hy
    simp only [lcards] at hy
    split at hy
    · exact ihs h.2 x ok y hy
    · cases hy
/-- the actions among cards -/
def actsOf (l : List Card) : List Card := l.filter fun x => decide (x.2.2.2 ≠ -1)
theorem acts_same (A : At) (p : Pol) (x : Card) : isort ((actsOf (pcards A p x)).map encA) = isort ((actsOf (lcards A p x)).map encA) := by
  have pm : (actsOf (pcards A p x)).Perm (actsOf (lcards A p x)) := by
    refine (List.perm_ext_iff_of_nodup ((p_nodup A p x).filter _) ((l_nodup A p x).filter _)).mpr fun y => ?_
    rw [List.mem_filter, List.mem_filter, pl_same]
  exact sorted_one (acts_alk (actsOf (lcards A p x))) ((isort_perm _).trans (pm.map encA)) (isort_perm _) (isort_sorted (acts_alk _)) (isort_sorted (acts_alk _))
/-! ### how many -/
def NC : Nat → Nat
  | 0 => 1
  | d + 1 => max (2 * NC d) (NC d * NC d)
theorem NC_pos (d : Nat) : 1 ≤ NC d := by
  induction d with
  | zero => simp [NC]
  | succ d ih => simp only [NC]; omega
theorem NC_mono {a b : Nat} (h : a ≤ b) : NC a ≤ NC b := by
  induction b with
  | zero => rw [Nat.le_zero.mp h]; exact Nat.le_refl _
  | succ b ih =>
    by_cases e : a = b + 1
    · rw [e]; exact Nat.le_refl _
    · have := ih (by omega)
      have p := NC_pos b
      simp only [NC]
      omega
theorem flat_len {f : Card → List Card} {k : Nat} : ∀ {l : List Card}, (∀ x ∈ l, (f x).length ≤ k) → (l.flatMap f).length ≤ l.length * k
  | [], _ => by simp
  | x :: l, h => by
    have h1 := h x (by simp)
    have h2 := flat_len (l := l) fun y hy => h y (by simp [hy])
    rw [List.flatMap_cons, List.length_append, List.length_cons, Nat.add_mul]
    omega
theorem l_len (A : At) : ∀ (p : Pol) (x : Card), (lcards A p x).length ≤ NC p.dp := by
  intro p
  induction p with
  | drop => intro x; simp [lcards]
  | pass => intro x; simp [lcards, Pol.dp, NC]
  | set f v => intro x; simp [lcards, Pol.dp, NC]
  | out q => intro x; simp [lcards, Pol.dp, NC]
  | thn s t ihs iht =>
    intro x
    simp only [lcards, Pol.dp, NC]
    have h1 := ihs x
    have m1 := NC_mono (show s.dp ≤ max s.dp t.dp by omega)
    have m2 := NC_mono (show t.dp ≤ max s.dp t.dp by omega)
    have h2 := flat_len (f := lcards A t) (k := NC (max s.dp t.dp)) (l := lcards A s x) fun y _ => Nat.le_trans (iht y) m2
    have h3 := Nat.mul_le_mul_right (NC (max s.dp t.dp)) (Nat.le_trans h1 m1)
    have h4 := sortC_len ((lcards A s x).flatMap (lcards A t))
    omega
  | both s t ihs iht =>
    intro x
    simp only [lcards, Pol.dp, NC]
    have h1 := ihs x
    have h2 := iht x
    have m1 := NC_mono (show s.dp ≤ max s.dp t.dp by omega)
    have m2 := NC_mono (show t.dp ≤ max s.dp t.dp by omega)
    have h4 := sortC_len (lcards A s x ++ lcards A t x)
    rw [List.length_append] at h4
    omega
  | ite t s u ihs ihu =>
    intro x
    simp only [lcards, Pol.dp, NC]
    have h1 := ihs x
    have h2 := ihu x
    have m1 := NC_mono (show s.dp ≤ max s.dp u.dp by omega)
    have m2 := NC_mono (show u.dp ≤ max s.dp u.dp by omega)
    split <;> omega
  | at_ ws s ihs =>
    intro x
    simp only [lcards, Pol.dp, NC]
    have h1 := ihs x
    split
    · omega
    · simp
theorem p_len (A : At) (p : Pol) (x : Card) : (pcards A p x).length ≤ NC p.dp := by
  rw [((List.perm_ext_iff_of_nodup (p_nodup A p x) (l_nodup A p x)).mpr (pl_same A p x)).length_eq]
  exact l_len A p x
end Pv
set_option maxHeartbeats 4000000
namespace Pv
/-! ## The program's cards -/
theorem comp_fm {α : Type} (enc : α → PV) (g : α → Option PV) {f : PV → Mem → R (Option PV)} {m : Mem} : ∀ {l : List α}, (∀ x ∈ l, f (enc x) m = .ok (g x) m) → compL f (l.map enc) m = .ok (l.filterMap g) m
  | [], _ => rfl
  | x :: l, h => by
    rw [List.map_cons]
    unfold compL
    rw [h x (by simp), bnd_ok, comp_fm enc g fun y hy => h y (by simp [hy]), bnd_ok, List.filterMap_cons]
    cases g x <;> rfl
theorem comp_mp {α : Type} (enc g : α → PV) {f : PV → Mem → R (Option PV)} {m : Mem} {l : List α} (h : ∀ x ∈ l, f (enc x) m = .ok (some (g x)) m) : compL f (l.map enc) m = .ok (l.map g) m := by
  rw [comp_fm enc (fun x => some (g x)) h]
  congr 1
  induction l with
  | nil => rfl
  | cons x l ih => simp
theorem fm_filter {l : List Card} {q : Card → Bool} {e : Card → PV} : (l.filterMap fun o => if q o = true then some (e o) else none) = (l.filter q).map e := by
  induction l with
  | nil => rfl
  | cons x l ih =>
    rw [List.filterMap_cons, List.filter_cons]
    cases h : q x <;> simp [ih]
abbrev encL (l : List Card) : PV := .lst (l.map encC)
section
variable {pr : Prg}
def ubody : S := .asg (.v 1) (.bin false .add (.loc 1) (.comp false [3] (.v 3) (.loc 2) (.cmp .notin (.loc 3) (.loc 1)) (.loc 3)))
theorem mk_cards {l : List Card} {m : Mem} : mkl false (l.map encC) m = .ok (.lst (l.map encC)) m := by
  simp [mkl, encC_D]
theorem united_loop {n : Nat} {a : Option PV} {m : Mem} : ∀ (lots : List (List Card)) (f : List Card) (x2 : Option PV), f.length + (lots.map List.length).sum ≤ 1000 →
    ∃ y2, forL (forB pr.con (run pr n) (.v 2) ubody) (lots.map encL) [a, some (encL f), x2, none] m = .ok (.next, [a, some (encL (lots.foldl unite1 f)), y2, none]) m
  | [], f, x2, _ => ⟨x2, rfl⟩
  | l :: lots, f, x2, h => by
    rw [List.map_cons, List.sum_cons] at h
    have h1 := unite1_len f l
    obtain ⟨y2, e⟩ := united_loop (a := a) lots (unite1 f l) (some (encL l)) (by omega)
    refine ⟨y2, ?_⟩
    have hc : compL (cmpB pr.con (run pr n) [a, some (encL f), some (encL l), none] [3] (.v 3) (.cmp .notin (.loc 3) (.loc 1)) (.loc 3)) (l.map encC) m = .ok ((l.filter fun o => !f.contains o).map encC) m := by
      rw [comp_fm encC (fun o => if (!f.contains o) = true then some (encC o) else none) fun o ho => ?_, fm_filter]
      have q := isIn_l (m := m) (x := encC o) (l := f.map encC) (encC_D o) (by have := cards_dep f; omega)
      rw [any_cards] at q
      simp [cmpB, asg, wipeP, compT, x_k, x_loc, x_glo, x_bin, x_neg, x_not, x_and, x_or, x_cmp, x_cmp2, x_ite, x_nil, x_cons, x_tup, x_lst, x_ix, x_sl, x_call, x_bf, x_isi, x_rng, x_zip, x_zip3, x_enu, x_rng2, x_comp, x_dget, x_index, x_indexc, x_tell, s_skip, s_seq, s_ex, s_ret, s_asg, s_par, s_ite, s_for, thenS_next, thenS_ret, fin_ret, fin_next, ob_some, obl_bl, bnd_if, lft_if, unl, bnd_ok, bnd_no, lft_some, lft_none, noexc, tstB, truth, cmpop, q]
      try (by_cases h : o ∈ f <;> simp [h])
    have step : forB pr.con (run pr n) (.v 2) ubody (encL l) [a, some (encL f), x2, none] m = .ok (.next, [a, some (encL (unite1 f l)), some (encL l), none]) m := by
      rw [forB_eq]
      have hb : f.length + (l.filter fun o => !f.contains o).length ≤ big := by
        have := List.length_filter_le (fun o => !f.contains o) l
        unfold big; omega
      have hbin : binop false .add (encL f) (.lst ((l.filter fun o => !f.contains o).map encC)) m = .ok (encL (unite1 f l)) m := by
        unfold binop
        simp only [vw_l, List.length_map, if_pos hb]
        rw [← List.map_append]
        exact mk_cards (l := f ++ l.filter fun o => !f.contains o)
      simp only [asg, ubody, List.set_cons_succ, List.set_cons_zero, s_asg, x_bin, x_loc, x_comp, List.getElem?_cons_succ, List.getElem?_cons_zero, Option.join_some, lft_some, bnd_ok, hc, mk_cards, hbin, Option.map_some]
    rw [List.map_cons]
    unfold forL
    rw [step]
    exact e
theorem united_ (L : MeanLib pr) {n : Nat} {m : Mem} {lots : List (List Card)} (h : (lots.map List.length).sum ≤ 1000) : run pr (n + 1) L.united [.lst (lots.map encL)] m = .ok (encL (unite lots)) m := by
  rw [L.r_united]
  obtain ⟨y2, e⟩ := united_loop (pr := pr) (n := n) (a := some (.lst (lots.map encL))) (m := m) lots [] none (by simpa using h)
  simp [goP, S_united, x_k, x_loc, x_glo, x_bin, x_neg, x_not, x_and, x_or, x_cmp, x_cmp2, x_ite, x_nil, x_cons, x_tup, x_lst, x_ix, x_sl, x_call, x_bf, x_isi, x_rng, x_zip, x_zip3, x_enu, x_rng2, x_comp, x_dget, x_index, x_indexc, x_tell, s_skip, s_seq, s_ex, s_ret, s_asg, s_par, s_ite, s_for, thenS_next, thenS_ret, fin_ret, fin_next, ob_some, obl_bl, bnd_if, lft_if, unl, bnd_ok, bnd_no, lft_some, lft_none, mkl, asg]
  have e' : forL (forB pr.con (run pr n) (.v 2) (.asg (.v 1) (.bin false .add (.loc 1) (.comp false [3] (.v 3) (.loc 2) (.cmp .notin (.loc 3) (.loc 1)) (.loc 3))))) (lots.map encL) [some (.lst (lots.map encL)), some (.lst []), none, none] m = _ := e
  rw [e']
  simp [x_k, x_loc, x_glo, x_bin, x_neg, x_not, x_and, x_or, x_cmp, x_cmp2, x_ite, x_nil, x_cons, x_tup, x_lst, x_ix, x_sl, x_call, x_bf, x_isi, x_rng, x_zip, x_zip3, x_enu, x_rng2, x_comp, x_dget, x_index, x_indexc, x_tell, s_skip, s_seq, s_ex, s_ret, s_asg, s_par, s_ite, s_for, thenS_next, thenS_ret, fin_ret, fin_next, ob_some, obl_bl, bnd_if, lft_if, unl, bnd_ok, bnd_no, lft_some, lft_none, unite]
theorem put_ (L : MeanLib pr) {n f : Nat} {v a b c : Int} {m : Mem} (hf : f < 3) : run pr (n + 1) L.put [hdr a b c, .int f, .int v] m = .ok (hdr (putC f v (a, b, c, 0)).1 (putC f v (a, b, c, 0)).2.1 (putC f v (a, b, c, 0)).2.2.1) m := by
  rw [L.r_put]
  rcases f with _ | _ | _ | f
  · simp [goP, S_put, x_k, x_loc, x_glo, x_bin, x_neg, x_not, x_and, x_or, x_cmp, x_cmp2, x_ite, x_nil, x_cons, x_tup, x_lst, x_ix, x_sl, x_call, x_bf, x_isi, x_rng, x_zip, x_zip3, x_enu, x_rng2, x_comp, x_dget, x_index, x_indexc, x_tell, s_skip, s_seq, s_ex, s_ret, s_asg, s_par, s_ite, s_for, thenS_next, thenS_ret, fin_ret, fin_next, ob_some, obl_bl, bnd_if, lft_if, unl, bnd_ok, bnd_no, lft_some, lft_none, slice, optI, small, cut, bound, binop, arith, vw_t, vw_l, vw_s, vw_i, vw_b, eqv_ss, eqv_ii, item_t, atI, D_non, D_bl, D_int, D_str, D_tup, D_lst, P_non, P_bl, P_int, P_str, P_tup, P_lst, P_nil, P_cons, eqM_d, isIn_t, isIn_l, inL, putC, big]
  · simp [goP, S_put, x_k, x_loc, x_glo, x_bin, x_neg, x_not, x_and, x_or, x_cmp, x_cmp2, x_ite, x_nil, x_cons, x_tup, x_lst, x_ix, x_sl, x_call, x_bf, x_isi, x_rng, x_zip, x_zip3, x_enu, x_rng2, x_comp, x_dget, x_index, x_indexc, x_tell, s_skip, s_seq, s_ex, s_ret, s_asg, s_par, s_ite, s_for, thenS_next, thenS_ret, fin_ret, fin_next, ob_some, obl_bl, bnd_if, lft_if, unl, bnd_ok, bnd_no, lft_some, lft_none, slice, optI, small, cut, bound, binop, arith, vw_t, vw_l, vw_s, vw_i, vw_b, eqv_ss, eqv_ii, item_t, atI, D_non, D_bl, D_int, D_str, D_tup, D_lst, P_non, P_bl, P_int, P_str, P_tup, P_lst, P_nil, P_cons, eqM_d, isIn_t, isIn_l, inL, putC, big]
  · simp [goP, S_put, x_k, x_loc, x_glo, x_bin, x_neg, x_not, x_and, x_or, x_cmp, x_cmp2, x_ite, x_nil, x_cons, x_tup, x_lst, x_ix, x_sl, x_call, x_bf, x_isi, x_rng, x_zip, x_zip3, x_enu, x_rng2, x_comp, x_dget, x_index, x_indexc, x_tell, s_skip, s_seq, s_ex, s_ret, s_asg, s_par, s_ite, s_for, thenS_next, thenS_ret, fin_ret, fin_next, ob_some, obl_bl, bnd_if, lft_if, unl, bnd_ok, bnd_no, lft_some, lft_none, slice, optI, small, cut, bound, binop, arith, vw_t, vw_l, vw_s, vw_i, vw_b, eqv_ss, eqv_ii, item_t, atI, D_non, D_bl, D_int, D_str, D_tup, D_lst, P_non, P_bl, P_int, P_str, P_tup, P_lst, P_nil, P_cons, eqM_d, isIn_t, isIn_l, inL, putC, big]
  · omega
theorem laid_ (L : RowLib pr) {n : Nat} {a b c x y z : Int} {m : Mem} : run pr (n + 1) L.laid_on [hdr a b c, hdr x y z] m = .ok (hdr (lay a x) (lay b y) (lay c z)) m := by
  rw [L.r_laid_on]
  simp [goP, S_laid_on, x_k, x_loc, x_glo, x_bin, x_neg, x_not, x_and, x_or, x_cmp, x_cmp2, x_ite, x_nil, x_cons, x_tup, x_lst, x_ix, x_sl, x_call, x_bf, x_isi, x_rng, x_zip, x_zip3, x_enu, x_rng2, x_comp, x_dget, x_index, x_indexc, x_tell, s_skip, s_seq, s_ex, s_ret, s_asg, s_par, s_ite, s_for, thenS_next, thenS_ret, fin_ret, fin_next, ob_some, obl_bl, bnd_if, lft_if, unl, bnd_ok, bnd_no, lft_some, lft_none, L.h_NOT, zipL, compL, cmpB, compT, asg, wipeP, tstB, truth, mkl, callB, vw_t, vw_l, vw_s, vw_i, vw_b, eqv_ss, eqv_ii, item_t, atI, D_non, D_bl, D_int, D_str, D_tup, D_lst, P_non, P_bl, P_int, P_str, P_tup, P_lst, P_nil, P_cons, eqM_d, isIn_t, isIn_l, noexc, cmpop]
  by_cases h1 : x = -1 <;> by_cases h2 : y = -1 <;> by_cases h3 : z = -1 <;> simp [lay, h1, h2, h3, x_k, x_loc, x_glo, x_bin, x_neg, x_not, x_and, x_or, x_cmp, x_cmp2, x_ite, x_nil, x_cons, x_tup, x_lst, x_ix, x_sl, x_call, x_bf, x_isi, x_rng, x_zip, x_zip3, x_enu, x_rng2, x_comp, x_dget, x_index, x_indexc, x_tell, s_skip, s_seq, s_ex, s_ret, s_asg, s_par, s_ite, s_for, thenS_next, thenS_ret, fin_ret, fin_next, ob_some, obl_bl, bnd_if, lft_if, unl, bnd_ok, bnd_no, lft_some, lft_none, D_non, D_bl, D_int, D_str, D_tup, D_lst, P_non, P_bl, P_int, P_str, P_tup, P_lst, P_nil, P_cons, eqM_d, isIn_t, isIn_l, vw_t, vw_l, vw_s, vw_i, vw_b, eqv_ss, eqv_ii, item_t, atI]
end
end Pv
namespace Pv
/-! ## One statement after the other -/
section
variable {C : List PV} {Φ : Nat → List PV → Mem → R PV}
theorem q_asg {ρ ρ' : Env} {m m' : Mem} {e : E} {t : Tg} {b : S} {r : R (Fl × Env)} (v : PV) (h : evE C Φ e ρ m = .ok v m') (h2 : asg t v ρ = some ρ') (h3 : evS C Φ b ρ' m' = r) : evS C Φ (.seq (.asg t e) b) ρ m = r := by
  rw [s_seq, s_asg, h, bnd_ok, h2]
  exact h3
theorem q_par {ρ ρ' : Env} {m m' : Mem} {e : E} {t : Tg} {b : S} {r : R (Fl × Env)} (v : PV) (h : evE C Φ e ρ m = .ok v m') (h2 : asg t v ρ = some ρ') (h3 : evS C Φ b ρ' m' = r) : evS C Φ (.seq (.par t e) b) ρ m = r := by
  rw [s_seq, s_par, h, bnd_ok, h2]
  exact h3
theorem q_no {ρ : Env} {m : Mem} {c : E} {a b s : S} {r : R (Fl × Env)} (h : evE C Φ c ρ m = .ok (.bl false) m) (hs : s = .skip) (h3 : evS C Φ b ρ m = r) : evS C Φ (.seq (.ite c a s) b) ρ m = r := by
  subst hs
  rw [s_seq, s_ite, h]
  exact h3
theorem q_yes {ρ ρ' : Env} {m m2 : Mem} {c : E} {a b s : S} {v : PV} (h : evE C Φ c ρ m = .ok (.bl true) m) (h2 : evS C Φ a ρ m = .ok (.ret v, ρ') m2) : evS C Φ (.seq (.ite c a s) b) ρ m = .ok (.ret v, ρ') m2 := by
  rw [s_seq, s_ite, h]
  show bnd (evS C Φ a ρ m) _ = _
  rw [h2]
  rfl
theorem q_goes {ρ ρ' : Env} {m m' m2 : Mem} {c : E} {a b s : S} {r : R (Fl × Env)} (h : evE C Φ c ρ m = .ok (.bl true) m') (h2 : evS C Φ a ρ m' = .ok (.next, ρ') m2) (h3 : evS C Φ b ρ' m2 = r) : evS C Φ (.seq (.ite c a s) b) ρ m = r := by
  rw [s_seq, s_ite, h]
  show bnd (evS C Φ a ρ m') _ = _
  rw [h2]
  exact h3
theorem q_n {ρ ρ' : Env} {m m' : Mem} {a b : S} {r : R (Fl × Env)} (h : evS C Φ a ρ m = .ok (.next, ρ') m') (h3 : evS C Φ b ρ' m' = r) : evS C Φ (.seq a b) ρ m = r := by
  rw [s_seq, h]
  exact h3
theorem q_r {ρ ρ' : Env} {m m' : Mem} {a b : S} {v : PV} (h : evS C Φ a ρ m = .ok (.ret v, ρ') m') : evS C Φ (.seq a b) ρ m = .ok (.ret v, ρ') m' := by
  rw [s_seq, h]
  rfl
theorem q_ret {ρ : Env} {m m' : Mem} {e : E} {v : PV} (h : evE C Φ e ρ m = .ok v m') : evS C Φ (.ret e) ρ m = .ok (.ret v, ρ) m' := by
  rw [s_ret, h]
  rfl
theorem q_ex {ρ : Env} {m m' : Mem} {e : E} {v : PV} {b : S} {r : R (Fl × Env)} (h : evE C Φ e ρ m = .ok v m') (h3 : evS C Φ b ρ m' = r) : evS C Φ (.seq (.ex e) b) ρ m = r := by
  rw [s_seq, s_ex, h]
  exact h3
end
/-- what a body answers -/
def runB (C : List PV) (Φ : Nat → List PV → Mem → R PV) (b : S) (ρ : Env) (m : Mem) : R PV := bnd (evS C Φ b ρ m) fin
theorem go_B (pr : Prg) (b : S) (np nl n : Nat) (l : List PV) (m : Mem) : goP pr b np nl n l m = runB pr.con (run pr n) b (l.map some ++ List.replicate (nl - np) none) m := rfl
section
variable {C : List PV} {Φ : Nat → List PV → Mem → R PV} {ρ ρ' : Env} {m m' : Mem} {a b c : S} {e : E} {t : Tg} {v : PV} {r : R PV}
theorem rb_last (h : evE C Φ e ρ m = r) : runB C Φ (.ret e) ρ m = r := by
  unfold runB
  rw [s_ret, h]
  cases r <;> rfl
theorem rb_skip : runB C Φ .skip ρ m = .ok .non m := rfl
theorem rb_ret (h : evE C Φ e ρ m = r) : runB C Φ (.seq (.ret e) b) ρ m = r := by
  unfold runB
  rw [s_seq, s_ret, h]
  cases r <;> rfl
theorem rb_seq (h : runB C Φ (.seq a (.seq b c)) ρ m = r) : runB C Φ (.seq (.seq a b) c) ρ m = r := by
  unfold runB at h ⊢
  rw [← h]
  simp only [s_seq]
  rcases evS C Φ a ρ m with ⟨⟨q, ρ1⟩, m1⟩ | ⟨x, m1⟩ | _
  · rcases q with _ | v | _ | _
    · simp only [bnd_ok, thenS_next]
    · rfl
    · rfl
    · rfl
  · rfl
  · rfl
theorem rb_asg (v : PV) (h : evE C Φ e ρ m = .ok v m') (h2 : asg t v ρ = some ρ') (h3 : runB C Φ b ρ' m' = r) : runB C Φ (.seq (.asg t e) b) ρ m = r := by
  unfold runB at h3 ⊢
  rw [q_asg v h h2 rfl]
  exact h3
theorem rb_par (v : PV) (h : evE C Φ e ρ m = .ok v m') (h2 : asg t v ρ = some ρ') (h3 : runB C Φ b ρ' m' = r) : runB C Φ (.seq (.par t e) b) ρ m = r := by
  unfold runB at h3 ⊢
  rw [q_par v h h2 rfl]
  exact h3
theorem rb_ex (h : evE C Φ e ρ m = .ok v m') (h3 : runB C Φ b ρ m' = r) : runB C Φ (.seq (.ex e) b) ρ m = r := by
  unfold runB at h3 ⊢
  rw [q_ex h rfl]
  exact h3
theorem rb_no {x s : S} (h : evE C Φ e ρ m = .ok (.bl false) m) (hs : s = .skip) (h3 : runB C Φ b ρ m = r) : runB C Φ (.seq (.ite e x s) b) ρ m = r := by
  unfold runB at h3 ⊢
  rw [q_no h hs rfl]
  exact h3
theorem rb_yes {x s : S} (h : evE C Φ e ρ m = .ok (.bl true) m) (h3 : runB C Φ (.seq x b) ρ m = r) : runB C Φ (.seq (.ite e x s) b) ρ m = r := by
  unfold runB at h3 ⊢
  rw [s_seq, s_ite, h]
  exact h3
theorem rb_n (h : evS C Φ a ρ m = .ok (.next, ρ') m') (h3 : runB C Φ b ρ' m' = r) : runB C Φ (.seq a b) ρ m = r := by
  unfold runB at h3 ⊢
  rw [q_n h rfl]
  exact h3
theorem rb_r (h : evS C Φ a ρ m = .ok (.ret v, ρ') m') : runB C Φ (.seq a b) ρ m = .ok v m' := by
  unfold runB
  rw [q_r h]
  rfl
theorem rb_if {x y : S} {q : Bool} (h : evE C Φ e ρ m = .ok (.bl q) m) (h3 : runB C Φ (if q = true then x else y) ρ m = r) : runB C Φ (.ite e x y) ρ m = r := by
  unfold runB at h3 ⊢
  rw [s_ite, h]
  cases q <;> exact h3
end
/-- the parts of a call -/
theorem call_c {C : List PV} {Φ : Nat → List PV → Mem → R PV} {ρ : Env} {m m' m2 : Mem} {f : Nat} {l : E} {vs : List PV} {v : PV} (h : evE C Φ l ρ m = .ok (.tup vs) m') (h2 : Φ f vs m' = .ok v m2) : evE C Φ (.call f l) ρ m = .ok v m2 := by
  rw [x_call, h]
  exact h2
theorem call1_c {C : List PV} {Φ : Nat → List PV → Mem → R PV} {ρ : Env} {m m' : Mem} {f : Nat} {a : E} {v : PV} {r : R PV} (h : evE C Φ a ρ m = .ok v m') (h2 : Φ f [v] m' = r) : evE C Φ (.call f (.cons a .nil)) ρ m = r := by
  rw [x_call, x_cons, h]
  exact h2
theorem comp_c {C : List PV} {Φ : Nat → List PV → Mem → R PV} {ρ : Env} {m m' m2 : Mem} {mu : Bool} {own : List Nat} {t : Tg} {s c e : E} {l vs : List PV} {r : R PV} (h : evE C Φ s ρ m = .ok (.lst l) m') (h2 : compL (cmpB C Φ ρ own t c e) l m' = .ok vs m2) (h3 : mkl mu vs m2 = r) : evE C Φ (.comp mu own t s c e) ρ m = r := by
  rw [x_comp, h, bnd_ok]
  show bnd (compL _ l m') _ = _
  rw [h2]
  exact h3
theorem compt_c {C : List PV} {Φ : Nat → List PV → Mem → R PV} {ρ : Env} {m m' m2 : Mem} {mu : Bool} {own : List Nat} {t : Tg} {s c e : E} {l vs : List PV} {r : R PV} (h : evE C Φ s ρ m = .ok (.tup l) m') (h2 : compL (cmpB C Φ ρ own t c e) l m' = .ok vs m2) (h3 : mkl mu vs m2 = r) : evE C Φ (.comp mu own t s c e) ρ m = r := by
  rw [x_comp, h, bnd_ok]
  show bnd (compL _ l m') _ = _
  rw [h2]
  exact h3
theorem cons_c {C : List PV} {Φ : Nat → List PV → Mem → R PV} {ρ : Env} {m m1 m2 : Mem} {a l : E} {x : PV} {xs : List PV} (h : evE C Φ a ρ m = .ok x m1) (h2 : evE C Φ l ρ m1 = .ok (.tup xs) m2) : evE C Φ (.cons a l) ρ m = .ok (.tup (x :: xs)) m2 := by
  rw [x_cons, h, bnd_ok, h2]
  rfl
theorem nil_c {C : List PV} {Φ : Nat → List PV → Mem → R PV} {ρ : Env} {m : Mem} : evE C Φ .nil ρ m = .ok (.tup []) m := rfl
theorem tup_c {C : List PV} {Φ : Nat → List PV → Mem → R PV} {ρ : Env} {m m1 : Mem} {l : E} {xs : List PV} (h : evE C Φ l ρ m = .ok (.tup xs) m1) (hd : xs.all PV.isD = true) (hl : xs.length ≤ 1000) : evE C Φ (.tup l) ρ m = .ok (.tup xs) m1 := by
  rw [x_tup, h, bnd_ok]
  show (if (xs.all PV.isD && decide (xs.length ≤ 1000)) = true then _ else _) = _
  rw [hd, decide_eq_true hl]
  rfl
theorem loc_c {C : List PV} {Φ : Nat → List PV → Mem → R PV} {ρ : Env} {m : Mem} {i : Nat} {v : PV} (h : ρ[i]? = some (some v)) : evE C Φ (.loc i) ρ m = .ok v m := by
  rw [x_loc, h]
  rfl
theorem bf1_c {C : List PV} {Φ : Nat → List PV → Mem → R PV} {ρ : Env} {m m1 : Mem} {mu : Bool} {b : Bf} {a : E} {v : PV} {r : R PV} (h : evE C Φ a ρ m = .ok v m1) (h2 : callB mu b [v] m1 = r) : evE C Φ (.bf mu b (.cons a .nil)) ρ m = r := by
  rw [x_bf, x_cons, h]
  exact h2
end Pv
set_option maxHeartbeats 4000000
namespace Pv
theorem sum_len {f : Card → List Card} {k : Nat} : ∀ {l : List Card}, (∀ x ∈ l, (f x).length ≤ k) → ((l.map f).map List.length).sum ≤ l.length * k
  | [], _ => by simp
  | x :: l, h => by
    have h1 := h x (by simp)
    have h2 := sum_len (l := l) fun y hy => h y (by simp [hy])
    simp only [List.map_cons, List.sum_cons, List.length_cons, Nat.add_mul]
    simp only [List.map_map] at h2 ⊢
    omega
theorem encL_D (l : List Card) : (encL l).isD = true := rfl
theorem mk_lots {α : Type} {f : α → List Card} {l : List α} {m : Mem} : mkl false (l.map fun y => encL (f y)) m = .ok (.lst (l.map fun y => encL (f y))) m := by
  simp [mkl, encL_D]
section
variable {pr : Prg}
theorem cards_ (L : MeanLib pr) (A : At) : ∀ (p : Pol), p.ok → NC p.dp ≤ 1000 → ∀ (x : Card) (n : Nat) (m : Mem), run pr (n + p.ht + 3) L.cards_by [p.enc, .int A.sw, hdr A.a A.b A.c, .int A.p, encC x] m = .ok (encL (pcards A p x)) m := by
  intro p
  induction p with
  | drop =>
    intro _ _ x n m
    simp only [Pol.ht, Pol.enc]
    rw [show n + 1 + 3 = (n + 3) + 1 from rfl, L.r_cards_by]
    rw [go_B]
    refine rb_asg (.str [100, 114, 111, 112]) (m' := m) (by simp [x_k, x_loc, x_glo, x_bin, x_neg, x_not, x_and, x_or, x_cmp, x_cmp2, x_ite, x_nil, x_cons, x_tup, x_lst, x_ix, x_sl, x_call, x_bf, x_isi, x_rng, x_zip, x_zip3, x_enu, x_rng2, x_comp, x_dget, x_index, x_indexc, x_tell, s_skip, s_seq, s_ex, s_ret, s_asg, s_par, s_ite, s_for, thenS_next, thenS_ret, fin_ret, fin_next, ob_some, obl_bl, bnd_if, lft_if, unl, bnd_ok, bnd_no, lft_some, lft_none, vw_t, vw_l, vw_s, vw_i, vw_b, eqv_ss, eqv_ii, item_t, atI]) rfl ?_
    refine rb_yes (by simp [x_k, x_loc, x_glo, x_bin, x_neg, x_not, x_and, x_or, x_cmp, x_cmp2, x_ite, x_nil, x_cons, x_tup, x_lst, x_ix, x_sl, x_call, x_bf, x_isi, x_rng, x_zip, x_zip3, x_enu, x_rng2, x_comp, x_dget, x_index, x_indexc, x_tell, s_skip, s_seq, s_ex, s_ret, s_asg, s_par, s_ite, s_for, thenS_next, thenS_ret, fin_ret, fin_next, ob_some, obl_bl, bnd_if, lft_if, unl, bnd_ok, bnd_no, lft_some, lft_none, truth, cmpop, D_non, D_bl, D_int, D_str, D_tup, D_lst, P_non, P_bl, P_int, P_str, P_tup, P_lst, P_nil, P_cons, eqM_d, isIn_t, isIn_l, vw_t, vw_l, vw_s, vw_i, vw_b, eqv_ss, eqv_ii, item_t, atI, mkl, anyEq, maxD]) ?_
    exact rb_ret (by simp [x_k, x_loc, x_glo, x_bin, x_neg, x_not, x_and, x_or, x_cmp, x_cmp2, x_ite, x_nil, x_cons, x_tup, x_lst, x_ix, x_sl, x_call, x_bf, x_isi, x_rng, x_zip, x_zip3, x_enu, x_rng2, x_comp, x_dget, x_index, x_indexc, x_tell, s_skip, s_seq, s_ex, s_ret, s_asg, s_par, s_ite, s_for, thenS_next, thenS_ret, fin_ret, fin_next, ob_some, obl_bl, bnd_if, lft_if, unl, bnd_ok, bnd_no, lft_some, lft_none, mkl, pcards])
  | pass =>
    intro _ _ x n m
    simp only [Pol.ht, Pol.enc]
    rw [show n + 1 + 3 = (n + 3) + 1 from rfl, L.r_cards_by]
    rw [go_B]
    refine rb_asg (.str [112, 97, 115, 115]) (m' := m) (by simp [x_k, x_loc, x_glo, x_bin, x_neg, x_not, x_and, x_or, x_cmp, x_cmp2, x_ite, x_nil, x_cons, x_tup, x_lst, x_ix, x_sl, x_call, x_bf, x_isi, x_rng, x_zip, x_zip3, x_enu, x_rng2, x_comp, x_dget, x_index, x_indexc, x_tell, s_skip, s_seq, s_ex, s_ret, s_asg, s_par, s_ite, s_for, thenS_next, thenS_ret, fin_ret, fin_next, ob_some, obl_bl, bnd_if, lft_if, unl, bnd_ok, bnd_no, lft_some, lft_none, vw_t, vw_l, vw_s, vw_i, vw_b, eqv_ss, eqv_ii, item_t, atI]) rfl ?_
    refine rb_no (by simp [x_k, x_loc, x_glo, x_bin, x_neg, x_not, x_and, x_or, x_cmp, x_cmp2, x_ite, x_nil, x_cons, x_tup, x_lst, x_ix, x_sl, x_call, x_bf, x_isi, x_rng, x_zip, x_zip3, x_enu, x_rng2, x_comp, x_dget, x_index, x_indexc, x_tell, s_skip, s_seq, s_ex, s_ret, s_asg, s_par, s_ite, s_for, thenS_next, thenS_ret, fin_ret, fin_next, ob_some, obl_bl, bnd_if, lft_if, unl, bnd_ok, bnd_no, lft_some, lft_none, truth, cmpop, D_non, D_bl, D_int, D_str, D_tup, D_lst, P_non, P_bl, P_int, P_str, P_tup, P_lst, P_nil, P_cons, eqM_d, isIn_t, isIn_l, vw_t, vw_l, vw_s, vw_i, vw_b, eqv_ss, eqv_ii, item_t, atI, mkl, anyEq, maxD]) rfl ?_
    refine rb_yes (by simp [x_k, x_loc, x_glo, x_bin, x_neg, x_not, x_and, x_or, x_cmp, x_cmp2, x_ite, x_nil, x_cons, x_tup, x_lst, x_ix, x_sl, x_call, x_bf, x_isi, x_rng, x_zip, x_zip3, x_enu, x_rng2, x_comp, x_dget, x_index, x_indexc, x_tell, s_skip, s_seq, s_ex, s_ret, s_asg, s_par, s_ite, s_for, thenS_next, thenS_ret, fin_ret, fin_next, ob_some, obl_bl, bnd_if, lft_if, unl, bnd_ok, bnd_no, lft_some, lft_none, truth, cmpop, D_non, D_bl, D_int, D_str, D_tup, D_lst, P_non, P_bl, P_int, P_str, P_tup, P_lst, P_nil, P_cons, eqM_d, isIn_t, isIn_l, vw_t, vw_l, vw_s, vw_i, vw_b, eqv_ss, eqv_ii, item_t, atI, mkl, anyEq, maxD]) ?_
    exact rb_ret (by simp [x_k, x_loc, x_glo, x_bin, x_neg, x_not, x_and, x_or, x_cmp, x_cmp2, x_ite, x_nil, x_cons, x_tup, x_lst, x_ix, x_sl, x_call, x_bf, x_isi, x_rng, x_zip, x_zip3, x_enu, x_rng2, x_comp, x_dget, x_index, x_indexc, x_tell, s_skip, s_seq, s_ex, s_ret, s_asg, s_par, s_ite, s_for, thenS_next, thenS_ret, fin_ret, fin_next, ob_some, obl_bl, bnd_if, lft_if, unl, bnd_ok, bnd_no, lft_some, lft_none, mkl, pcards, encC_D])
  | set f v =>
    intro ok _ x n m
    obtain ⟨a, b, c, q⟩ := x
    simp only [Pol.ht, Pol.enc]
    have hp : ∀ m, run pr (n + 3) L.put [hdr a b c, .int f, .int v] m = _ := fun m => put_ L (n := n + 2) ok.1
    have hx := fix_f ok.1
    rw [show n + 1 + 3 = (n + 3) + 1 from rfl, L.r_cards_by]
    rw [go_B]
    refine rb_asg (.str [115, 101, 116]) (m' := m) (by simp [x_k, x_loc, x_glo, x_bin, x_neg, x_not, x_and, x_or, x_cmp, x_cmp2, x_ite, x_nil, x_cons, x_tup, x_lst, x_ix, x_sl, x_call, x_bf, x_isi, x_rng, x_zip, x_zip3, x_enu, x_rng2, x_comp, x_dget, x_index, x_indexc, x_tell, s_skip, s_seq, s_ex, s_ret, s_asg, s_par, s_ite, s_for, thenS_next, thenS_ret, fin_ret, fin_next, ob_some, obl_bl, bnd_if, lft_if, unl, bnd_ok, bnd_no, lft_some, lft_none, vw_t, vw_l, vw_s, vw_i, vw_b, eqv_ss, eqv_ii, item_t, atI]) rfl ?_
    refine rb_no (by simp [x_k, x_loc, x_glo, x_bin, x_neg, x_not, x_and, x_or, x_cmp, x_cmp2, x_ite, x_nil, x_cons, x_tup, x_lst, x_ix, x_sl, x_call, x_bf, x_isi, x_rng, x_zip, x_zip3, x_enu, x_rng2, x_comp, x_dget, x_index, x_indexc, x_tell, s_skip, s_seq, s_ex, s_ret, s_asg, s_par, s_ite, s_for, thenS_next, thenS_ret, fin_ret, fin_next, ob_some, obl_bl, bnd_if, lft_if, unl, bnd_ok, bnd_no, lft_some, lft_none, truth, cmpop, D_non, D_bl, D_int, D_str, D_tup, D_lst, P_non, P_bl, P_int, P_str, P_tup, P_lst, P_nil, P_cons, eqM_d, isIn_t, isIn_l, vw_t, vw_l, vw_s, vw_i, vw_b, eqv_ss, eqv_ii, item_t, atI, mkl, anyEq, maxD]) rfl ?_
    refine rb_no (by simp [x_k, x_loc, x_glo, x_bin, x_neg, x_not, x_and, x_or, x_cmp, x_cmp2, x_ite, x_nil, x_cons, x_tup, x_lst, x_ix, x_sl, x_call, x_bf, x_isi, x_rng, x_zip, x_zip3, x_enu, x_rng2, x_comp, x_dget, x_index, x_indexc, x_tell, s_skip, s_seq, s_ex, s_ret, s_asg, s_par, s_ite, s_for, thenS_next, thenS_ret, fin_ret, fin_next, ob_some, obl_bl, bnd_if, lft_if, unl, bnd_ok, bnd_no, lft_some, lft_none, truth, cmpop, D_non, D_bl, D_int, D_str, D_tup, D_lst, P_non, P_bl, P_int, P_str, P_tup, P_lst, P_nil, P_cons, eqM_d, isIn_t, isIn_l, vw_t, vw_l, vw_s, vw_i, vw_b, eqv_ss, eqv_ii, item_t, atI, mkl, anyEq, maxD]) rfl ?_
    refine rb_yes (by simp [x_k, x_loc, x_glo, x_bin, x_neg, x_not, x_and, x_or, x_cmp, x_cmp2, x_ite, x_nil, x_cons, x_tup, x_lst, x_ix, x_sl, x_call, x_bf, x_isi, x_rng, x_zip, x_zip3, x_enu, x_rng2, x_comp, x_dget, x_index, x_indexc, x_tell, s_skip, s_seq, s_ex, s_ret, s_asg, s_par, s_ite, s_for, thenS_next, thenS_ret, fin_ret, fin_next, ob_some, obl_bl, bnd_if, lft_if, unl, bnd_ok, bnd_no, lft_some, lft_none, truth, cmpop, D_non, D_bl, D_int, D_str, D_tup, D_lst, P_non, P_bl, P_int, P_str, P_tup, P_lst, P_nil, P_cons, eqM_d, isIn_t, isIn_l, vw_t, vw_l, vw_s, vw_i, vw_b, eqv_ss, eqv_ii, item_t, atI, mkl, anyEq, maxD]) ?_
    refine rb_ret ?_
    simp [x_k, x_loc, x_glo, x_bin, x_neg, x_not, x_and, x_or, x_cmp, x_cmp2, x_ite, x_nil, x_cons, x_tup, x_lst, x_ix, x_sl, x_call, x_bf, x_isi, x_rng, x_zip, x_zip3, x_enu, x_rng2, x_comp, x_dget, x_index, x_indexc, x_tell, s_skip, s_seq, s_ex, s_ret, s_asg, s_par, s_ite, s_for, thenS_next, thenS_ret, fin_ret, fin_next, ob_some, obl_bl, bnd_if, lft_if, unl, bnd_ok, bnd_no, lft_some, lft_none, mkl, pcards, encC, L.h_FIELDS, strsOf, hx, hp, vw_t, vw_l, vw_s, vw_i, vw_b, eqv_ss, eqv_ii, item_t, atI, D_non, D_bl, D_int, D_str, D_tup, D_lst, P_non, P_bl, P_int, P_str, P_tup, P_lst, P_nil, P_cons, eqM_d, isIn_t, isIn_l]
    rcases f with _ | _ | f <;> simp [putC]
  | out q =>
    intro ok _ x n m
    obtain ⟨a, b, c, q0⟩ := x
    simp only [Pol.ht, Pol.enc]
    rw [show n + 1 + 3 = (n + 3) + 1 from rfl, L.r_cards_by]
    rw [go_B]
    refine rb_asg (.str [111, 117, 116]) (m' := m) (by simp [x_k, x_loc, x_glo, x_bin, x_neg, x_not, x_and, x_or, x_cmp, x_cmp2, x_ite, x_nil, x_cons, x_tup, x_lst, x_ix, x_sl, x_call, x_bf, x_isi, x_rng, x_zip, x_zip3, x_enu, x_rng2, x_comp, x_dget, x_index, x_indexc, x_tell, s_skip, s_seq, s_ex, s_ret, s_asg, s_par, s_ite, s_for, thenS_next, thenS_ret, fin_ret, fin_next, ob_some, obl_bl, bnd_if, lft_if, unl, bnd_ok, bnd_no, lft_some, lft_none, vw_t, vw_l, vw_s, vw_i, vw_b, eqv_ss, eqv_ii, item_t, atI]) rfl ?_
    refine rb_no (by simp [x_k, x_loc, x_glo, x_bin, x_neg, x_not, x_and, x_or, x_cmp, x_cmp2, x_ite, x_nil, x_cons, x_tup, x_lst, x_ix, x_sl, x_call, x_bf, x_isi, x_rng, x_zip, x_zip3, x_enu, x_rng2, x_comp, x_dget, x_index, x_indexc, x_tell, s_skip, s_seq, s_ex, s_ret, s_asg, s_par, s_ite, s_for, thenS_next, thenS_ret, fin_ret, fin_next, ob_some, obl_bl, bnd_if, lft_if, unl, bnd_ok, bnd_no, lft_some, lft_none, truth, cmpop, D_non, D_bl, D_int, D_str, D_tup, D_lst, P_non, P_bl, P_int, P_str, P_tup, P_lst, P_nil, P_cons, eqM_d, isIn_t, isIn_l, vw_t, vw_l, vw_s, vw_i, vw_b, eqv_ss, eqv_ii, item_t, atI, mkl, anyEq, maxD]) rfl ?_
    refine rb_no (by simp [x_k, x_loc, x_glo, x_bin, x_neg, x_not, x_and, x_or, x_cmp, x_cmp2, x_ite, x_nil, x_cons, x_tup, x_lst, x_ix, x_sl, x_call, x_bf, x_isi, x_rng, x_zip, x_zip3, x_enu, x_rng2, x_comp, x_dget, x_index, x_indexc, x_tell, s_skip, s_seq, s_ex, s_ret, s_asg, s_par, s_ite, s_for, thenS_next, thenS_ret, fin_ret, fin_next, ob_some, obl_bl, bnd_if, lft_if, unl, bnd_ok, bnd_no, lft_some, lft_none, truth, cmpop, D_non, D_bl, D_int, D_str, D_tup, D_lst, P_non, P_bl, P_int, P_str, P_tup, P_lst, P_nil, P_cons, eqM_d, isIn_t, isIn_l, vw_t, vw_l, vw_s, vw_i, vw_b, eqv_ss, eqv_ii, item_t, atI, mkl, anyEq, maxD]) rfl ?_
    refine rb_no (by simp [x_k, x_loc, x_glo, x_bin, x_neg, x_not, x_and, x_or, x_cmp, x_cmp2, x_ite, x_nil, x_cons, x_tup, x_lst, x_ix, x_sl, x_call, x_bf, x_isi, x_rng, x_zip, x_zip3, x_enu, x_rng2, x_comp, x_dget, x_index, x_indexc, x_tell, s_skip, s_seq, s_ex, s_ret, s_asg, s_par, s_ite, s_for, thenS_next, thenS_ret, fin_ret, fin_next, ob_some, obl_bl, bnd_if, lft_if, unl, bnd_ok, bnd_no, lft_some, lft_none, truth, cmpop, D_non, D_bl, D_int, D_str, D_tup, D_lst, P_non, P_bl, P_int, P_str, P_tup, P_lst, P_nil, P_cons, eqM_d, isIn_t, isIn_l, vw_t, vw_l, vw_s, vw_i, vw_b, eqv_ss, eqv_ii, item_t, atI, mkl, anyEq, maxD]) rfl ?_
    refine rb_yes (by simp [x_k, x_loc, x_glo, x_bin, x_neg, x_not, x_and, x_or, x_cmp, x_cmp2, x_ite, x_nil, x_cons, x_tup, x_lst, x_ix, x_sl, x_call, x_bf, x_isi, x_rng, x_zip, x_zip3, x_enu, x_rng2, x_comp, x_dget, x_index, x_indexc, x_tell, s_skip, s_seq, s_ex, s_ret, s_asg, s_par, s_ite, s_for, thenS_next, thenS_ret, fin_ret, fin_next, ob_some, obl_bl, bnd_if, lft_if, unl, bnd_ok, bnd_no, lft_some, lft_none, truth, cmpop, D_non, D_bl, D_int, D_str, D_tup, D_lst, P_non, P_bl, P_int, P_str, P_tup, P_lst, P_nil, P_cons, eqM_d, isIn_t, isIn_l, vw_t, vw_l, vw_s, vw_i, vw_b, eqv_ss, eqv_ii, item_t, atI, mkl, anyEq, maxD]) ?_
    refine rb_ret ?_
    simp [x_k, x_loc, x_glo, x_bin, x_neg, x_not, x_and, x_or, x_cmp, x_cmp2, x_ite, x_nil, x_cons, x_tup, x_lst, x_ix, x_sl, x_call, x_bf, x_isi, x_rng, x_zip, x_zip3, x_enu, x_rng2, x_comp, x_dget, x_index, x_indexc, x_tell, s_skip, s_seq, s_ex, s_ret, s_asg, s_par, s_ite, s_for, thenS_next, thenS_ret, fin_ret, fin_next, ob_some, obl_bl, bnd_if, lft_if, unl, bnd_ok, bnd_no, lft_some, lft_none, mkl, pcards, encC, vw_t, vw_l, vw_s, vw_i, vw_b, eqv_ss, eqv_ii, item_t, atI, D_non, D_bl, D_int, D_str, D_tup, D_lst, P_non, P_bl, P_int, P_str, P_tup, P_lst, P_nil, P_cons, eqM_d, isIn_t, isIn_l]
  | thn s t ihs iht =>
    intro ok hN x n m
    simp only [Pol.dp] at hN
    have m1 := NC_mono (show s.dp ≤ max s.dp t.dp by omega)
    have m2 := NC_mono (show t.dp ≤ max s.dp t.dp by omega)
    have p1 := NC_pos (max s.dp t.dp)
    simp only [NC] at hN
    have r1 := ihs ok.1 (by omega) x (n + (max s.ht t.ht - s.ht)) m
    have r2 := fun y m => iht ok.2 (by omega) y (n + (max s.ht t.ht - t.ht)) m
    rw [show n + (max s.ht t.ht - s.ht) + s.ht + 3 = n + max s.ht t.ht + 3 by omega] at r1
    rw [show n + (max s.ht t.ht - t.ht) + t.ht + 3 = n + max s.ht t.ht + 3 by omega] at r2
    have hsum : (((pcards A s x).map (pcards A t)).map List.length).sum ≤ 1000 := by
      have h1 := sum_len (f := pcards A t) (k := NC (max s.dp t.dp)) (l := pcards A s x) fun y _ => Nat.le_trans (p_len A t y) m2
      have h3 := Nat.mul_le_mul_right (NC (max s.dp t.dp)) (Nat.le_trans (p_len A s x) m1)
      omega
    have hu : run pr (n + max s.ht t.ht + 3) L.united [.lst ((pcards A s x).map fun y => encL (pcards A t y))] m = .ok (encL (unite ((pcards A s x).map (pcards A t)))) m := by
      have hu := united_ L (n := n + max s.ht t.ht + 2) (m := m) hsum
      rw [List.map_map] at hu
      exact hu
    simp only [Pol.ht, Pol.enc]
    rw [show n + (max s.ht t.ht + 1) + 3 = (n + max s.ht t.ht + 3) + 1 by omega, L.r_cards_by]
    rw [go_B]
    refine rb_asg (.str [116, 104, 101, 110]) (m' := m) (by simp [x_k, x_loc, x_glo, x_bin, x_neg, x_not, x_and, x_or, x_cmp, x_cmp2, x_ite, x_nil, x_cons, x_tup, x_lst, x_ix, x_sl, x_call, x_bf, x_isi, x_rng, x_zip, x_zip3, x_enu, x_rng2, x_comp, x_dget, x_index, x_indexc, x_tell, s_skip, s_seq, s_ex, s_ret, s_asg, s_par, s_ite, s_for, thenS_next, thenS_ret, fin_ret, fin_next, ob_some, obl_bl, bnd_if, lft_if, unl, bnd_ok, bnd_no, lft_some, lft_none, vw_t, vw_l, vw_s, vw_i, vw_b, eqv_ss, eqv_ii, item_t, atI]) rfl ?_
    refine rb_no (by simp [x_k, x_loc, x_glo, x_bin, x_neg, x_not, x_and, x_or, x_cmp, x_cmp2, x_ite, x_nil, x_cons, x_tup, x_lst, x_ix, x_sl, x_call, x_bf, x_isi, x_rng, x_zip, x_zip3, x_enu, x_rng2, x_comp, x_dget, x_index, x_indexc, x_tell, s_skip, s_seq, s_ex, s_ret, s_asg, s_par, s_ite, s_for, thenS_next, thenS_ret, fin_ret, fin_next, ob_some, obl_bl, bnd_if, lft_if, unl, bnd_ok, bnd_no, lft_some, lft_none, truth, cmpop, D_non, D_bl, D_int, D_str, D_tup, D_lst, P_non, P_bl, P_int, P_str, P_tup, P_lst, P_nil, P_cons, eqM_d, isIn_t, isIn_l, vw_t, vw_l, vw_s, vw_i, vw_b, eqv_ss, eqv_ii, item_t, atI, mkl, anyEq, maxD]) rfl ?_
    refine rb_no (by simp [x_k, x_loc, x_glo, x_bin, x_neg, x_not, x_and, x_or, x_cmp, x_cmp2, x_ite, x_nil, x_cons, x_tup, x_lst, x_ix, x_sl, x_call, x_bf, x_isi, x_rng, x_zip, x_zip3, x_enu, x_rng2, x_comp, x_dget, x_index, x_indexc, x_tell, s_skip, s_seq, s_ex, s_ret, s_asg, s_par, s_ite, s_for, thenS_next, thenS_ret, fin_ret, fin_next, ob_some, obl_bl, bnd_if, lft_if, unl, bnd_ok, bnd_no, lft_some, lft_none, truth, cmpop, D_non, D_bl, D_int, D_str, D_tup, D_lst, P_non, P_bl, P_int, P_str, P_tup, P_lst, P_nil, P_cons, eqM_d, isIn_t, isIn_l, vw_t, vw_l, vw_s, vw_i, vw_b, eqv_ss, eqv_ii, item_t, atI, mkl, anyEq, maxD]) rfl ?_
    refine rb_no (by simp [x_k, x_loc, x_glo, x_bin, x_neg, x_not, x_and, x_or, x_cmp, x_cmp2, x_ite, x_nil, x_cons, x_tup, x_lst, x_ix, x_sl, x_call, x_bf, x_isi, x_rng, x_zip, x_zip3, x_enu, x_rng2, x_comp, x_dget, x_index, x_indexc, x_tell, s_skip, s_seq, s_ex, s_ret, s_asg, s_par, s_ite, s_for, thenS_next, thenS_ret, fin_ret, fin_next, ob_some, obl_bl, bnd_if, lft_if, unl, bnd_ok, bnd_no, lft_some, lft_none, truth, cmpop, D_non, D_bl, D_int, D_str, D_tup, D_lst, P_non, P_bl, P_int, P_str, P_tup, P_lst, P_nil, P_cons, eqM_d, isIn_t, isIn_l, vw_t, vw_l, vw_s, vw_i, vw_b, eqv_ss, eqv_ii, item_t, atI, mkl, anyEq, maxD]) rfl ?_
    refine rb_no (by simp [x_k, x_loc, x_glo, x_bin, x_neg, x_not, x_and, x_or, x_cmp, x_cmp2, x_ite, x_nil, x_cons, x_tup, x_lst, x_ix, x_sl, x_call, x_bf, x_isi, x_rng, x_zip, x_zip3, x_enu, x_rng2, x_comp, x_dget, x_index, x_indexc, x_tell, s_skip, s_seq, s_ex, s_ret, s_asg, s_par, s_ite, s_for, thenS_next, thenS_ret, fin_ret, fin_next, ob_some, obl_bl, bnd_if, lft_if, unl, bnd_ok, bnd_no, lft_some, lft_none, truth, cmpop, D_non, D_bl, D_int, D_str, D_tup, D_lst, P_non, P_bl, P_int, P_str, P_tup, P_lst, P_nil, P_cons, eqM_d, isIn_t, isIn_l, vw_t, vw_l, vw_s, vw_i, vw_b, eqv_ss, eqv_ii, item_t, atI, mkl, anyEq, maxD]) rfl ?_
    refine rb_yes (by simp [x_k, x_loc, x_glo, x_bin, x_neg, x_not, x_and, x_or, x_cmp, x_cmp2, x_ite, x_nil, x_cons, x_tup, x_lst, x_ix, x_sl, x_call, x_bf, x_isi, x_rng, x_zip, x_zip3, x_enu, x_rng2, x_comp, x_dget, x_index, x_indexc, x_tell, s_skip, s_seq, s_ex, s_ret, s_asg, s_par, s_ite, s_for, thenS_next, thenS_ret, fin_ret, fin_next, ob_some, obl_bl, bnd_if, lft_if, unl, bnd_ok, bnd_no, lft_some, lft_none, truth, cmpop, D_non, D_bl, D_int, D_str, D_tup, D_lst, P_non, P_bl, P_int, P_str, P_tup, P_lst, P_nil, P_cons, eqM_d, isIn_t, isIn_l, vw_t, vw_l, vw_s, vw_i, vw_b, eqv_ss, eqv_ii, item_t, atI, mkl, anyEq, maxD]) ?_
    refine rb_seq ?_
    refine rb_asg (encL (pcards A s x)) (m' := m) (by simp [x_k, x_loc, x_glo, x_bin, x_neg, x_not, x_and, x_or, x_cmp, x_cmp2, x_ite, x_nil, x_cons, x_tup, x_lst, x_ix, x_sl, x_call, x_bf, x_isi, x_rng, x_zip, x_zip3, x_enu, x_rng2, x_comp, x_dget, x_index, x_indexc, x_tell, s_skip, s_seq, s_ex, s_ret, s_asg, s_par, s_ite, s_for, thenS_next, thenS_ret, fin_ret, fin_next, ob_some, obl_bl, bnd_if, lft_if, unl, bnd_ok, bnd_no, lft_some, lft_none, vw_t, vw_l, vw_s, vw_i, vw_b, eqv_ss, eqv_ii, item_t, atI, r1]) rfl ?_
    refine rb_ret ?_
    refine call1_c ?_ hu
    refine comp_c (l := (pcards A s x).map encC) (m' := m) (by simp [x_k, x_loc, x_glo, x_bin, x_neg, x_not, x_and, x_or, x_cmp, x_cmp2, x_ite, x_nil, x_cons, x_tup, x_lst, x_ix, x_sl, x_call, x_bf, x_isi, x_rng, x_zip, x_zip3, x_enu, x_rng2, x_comp, x_dget, x_index, x_indexc, x_tell, s_skip, s_seq, s_ex, s_ret, s_asg, s_par, s_ite, s_for, thenS_next, thenS_ret, fin_ret, fin_next, ob_some, obl_bl, bnd_if, lft_if, unl, bnd_ok, bnd_no, lft_some, lft_none]) (comp_mp encC (fun y => encL (pcards A t y)) (fun y hy => ?_)) mk_lots
    simp [cmpB, asg, wipeP, compT, x_k, x_loc, x_glo, x_bin, x_neg, x_not, x_and, x_or, x_cmp, x_cmp2, x_ite, x_nil, x_cons, x_tup, x_lst, x_ix, x_sl, x_call, x_bf, x_isi, x_rng, x_zip, x_zip3, x_enu, x_rng2, x_comp, x_dget, x_index, x_indexc, x_tell, s_skip, s_seq, s_ex, s_ret, s_asg, s_par, s_ite, s_for, thenS_next, thenS_ret, fin_ret, fin_next, ob_some, obl_bl, bnd_if, lft_if, unl, bnd_ok, bnd_no, lft_some, lft_none, noexc, tstB, truth, vw_t, vw_l, vw_s, vw_i, vw_b, eqv_ss, eqv_ii, item_t, atI, r2]
  | both s t ihs iht =>
    intro ok hN x n m
    simp only [Pol.dp] at hN
    have m1 := NC_mono (show s.dp ≤ max s.dp t.dp by omega)
    have m2 := NC_mono (show t.dp ≤ max s.dp t.dp by omega)
    have p1 := NC_pos (max s.dp t.dp)
    simp only [NC] at hN
    have r1 := fun m => ihs ok.1 (by omega) x (n + (max s.ht t.ht - s.ht)) m
    have r2 := fun m => iht ok.2 (by omega) x (n + (max s.ht t.ht - t.ht)) m
    rw [show n + (max s.ht t.ht - s.ht) + s.ht + 3 = n + max s.ht t.ht + 3 by omega] at r1
    rw [show n + (max s.ht t.ht - t.ht) + t.ht + 3 = n + max s.ht t.ht + 3 by omega] at r2
    have l1 := p_len A s x
    have l2 := p_len A t x
    have hu : run pr (n + max s.ht t.ht + 3) L.united [.lst [encL (pcards A s x), encL (pcards A t x)]] m = _ := united_ L (n := n + max s.ht t.ht + 2) (m := m) (lots := [pcards A s x, pcards A t x]) (by simp; omega)
    simp only [Pol.ht, Pol.enc]
    rw [show n + (max s.ht t.ht + 1) + 3 = (n + max s.ht t.ht + 3) + 1 by omega, L.r_cards_by]
    rw [go_B]
    refine rb_asg (.str [98, 111, 116, 104]) (m' := m) (by simp [x_k, x_loc, x_glo, x_bin, x_neg, x_not, x_and, x_or, x_cmp, x_cmp2, x_ite, x_nil, x_cons, x_tup, x_lst, x_ix, x_sl, x_call, x_bf, x_isi, x_rng, x_zip, x_zip3, x_enu, x_rng2, x_comp, x_dget, x_index, x_indexc, x_tell, s_skip, s_seq, s_ex, s_ret, s_asg, s_par, s_ite, s_for, thenS_next, thenS_ret, fin_ret, fin_next, ob_some, obl_bl, bnd_if, lft_if, unl, bnd_ok, bnd_no, lft_some, lft_none, vw_t, vw_l, vw_s, vw_i, vw_b, eqv_ss, eqv_ii, item_t, atI]) rfl ?_
    refine rb_no (by simp [x_k, x_loc, x_glo, x_bin, x_neg, x_not, x_and, x_or, x_cmp, x_cmp2, x_ite, x_nil, x_cons, x_tup, x_lst, x_ix, x_sl, x_call, x_bf, x_isi, x_rng, x_zip, x_zip3, x_enu, x_rng2, x_comp, x_dget, x_index, x_indexc, x_tell, s_skip, s_seq, s_ex, s_ret, s_asg, s_par, s_ite, s_for, thenS_next, thenS_ret, fin_ret, fin_next, ob_some, obl_bl, bnd_if, lft_if, unl, bnd_ok, bnd_no, lft_some, lft_none, truth, cmpop, D_non, D_bl, D_int, D_str, D_tup, D_lst, P_non, P_bl, P_int, P_str, P_tup, P_lst, P_nil, P_cons, eqM_d, isIn_t, isIn_l, vw_t, vw_l, vw_s, vw_i, vw_b, eqv_ss, eqv_ii, item_t, atI, mkl, anyEq, maxD]) rfl ?_
    refine rb_no (by simp [x_k, x_loc, x_glo, x_bin, x_neg, x_not, x_and, x_or, x_cmp, x_cmp2, x_ite, x_nil, x_cons, x_tup, x_lst, x_ix, x_sl, x_call, x_bf, x_isi, x_rng, x_zip, x_zip3, x_enu, x_rng2, x_comp, x_dget, x_index, x_indexc, x_tell, s_skip, s_seq, s_ex, s_ret, s_asg, s_par, s_ite, s_for, thenS_next, thenS_ret, fin_ret, fin_next, ob_some, obl_bl, bnd_if, lft_if, unl, bnd_ok, bnd_no, lft_some, lft_none, truth, cmpop, D_non, D_bl, D_int, D_str, D_tup, D_lst, P_non, P_bl, P_int, P_str, P_tup, P_lst, P_nil, P_cons, eqM_d, isIn_t, isIn_l, vw_t, vw_l, vw_s, vw_i, vw_b, eqv_ss, eqv_ii, item_t, atI, mkl, anyEq, maxD]) rfl ?_
    refine rb_no (by simp [x_k, x_loc, x_glo, x_bin, x_neg, x_not, x_and, x_or, x_cmp, x_cmp2, x_ite, x_nil, x_cons, x_tup, x_lst, x_ix, x_sl, x_call, x_bf, x_isi, x_rng, x_zip, x_zip3, x_enu, x_rng2, x_comp, x_dget, x_index, x_indexc, x_tell, s_skip, s_seq, s_ex, s_ret, s_asg, s_par, s_ite, s_for, thenS_next, thenS_ret, fin_ret, fin_next, ob_some, obl_bl, bnd_if, lft_if, unl, bnd_ok, bnd_no, lft_some, lft_none, truth, cmpop, D_non, D_bl, D_int, D_str, D_tup, D_lst, P_non, P_bl, P_int, P_str, P_tup, P_lst, P_nil, P_cons, eqM_d, isIn_t, isIn_l, vw_t, vw_l, vw_s, vw_i, vw_b, eqv_ss, eqv_ii, item_t, atI, mkl, anyEq, maxD]) rfl ?_
    refine rb_no (by simp [x_k, x_loc, x_glo, x_bin, x_neg, x_not, x_and, x_or, x_cmp, x_cmp2, x_ite, x_nil, x_cons, x_tup, x_lst, x_ix, x_sl, x_call, x_bf, x_isi, x_rng, x_zip, x_zip3, x_enu, x_rng2, x_comp, x_dget, x_index, x_indexc, x_tell, s_skip, s_seq, s_ex, s_ret, s_asg, s_par, s_ite, s_for, thenS_next, thenS_ret, fin_ret, fin_next, ob_some, obl_bl, bnd_if, lft_if, unl, bnd_ok, bnd_no, lft_some, lft_none, truth, cmpop, D_non, D_bl, D_int, D_str, D_tup, D_lst, P_non, P_bl, P_int, P_str, P_tup, P_lst, P_nil, P_cons, eqM_d, isIn_t, isIn_l, vw_t, vw_l, vw_s, vw_i, vw_b, eqv_ss, eqv_ii, item_t, atI, mkl, anyEq, maxD]) rfl ?_
    refine rb_no (by simp [x_k, x_loc, x_glo, x_bin, x_neg, x_not, x_and, x_or, x_cmp, x_cmp2, x_ite, x_nil, x_cons, x_tup, x_lst, x_ix, x_sl, x_call, x_bf, x_isi, x_rng, x_zip, x_zip3, x_enu, x_rng2, x_comp, x_dget, x_index, x_indexc, x_tell, s_skip, s_seq, s_ex, s_ret, s_asg, s_par, s_ite, s_for, thenS_next, thenS_ret, fin_ret, fin_next, ob_some, obl_bl, bnd_if, lft_if, unl, bnd_ok, bnd_no, lft_some, lft_none, truth, cmpop, D_non, D_bl, D_int, D_str, D_tup, D_lst, P_non, P_bl, P_int, P_str, P_tup, P_lst, P_nil, P_cons, eqM_d, isIn_t, isIn_l, vw_t, vw_l, vw_s, vw_i, vw_b, eqv_ss, eqv_ii, item_t, atI, mkl, anyEq, maxD]) rfl ?_
    refine rb_yes (by simp [x_k, x_loc, x_glo, x_bin, x_neg, x_not, x_and, x_or, x_cmp, x_cmp2, x_ite, x_nil, x_cons, x_tup, x_lst, x_ix, x_sl, x_call, x_bf, x_isi, x_rng, x_zip, x_zip3, x_enu, x_rng2, x_comp, x_dget, x_index, x_indexc, x_tell, s_skip, s_seq, s_ex, s_ret, s_asg, s_par, s_ite, s_for, thenS_next, thenS_ret, fin_ret, fin_next, ob_some, obl_bl, bnd_if, lft_if, unl, bnd_ok, bnd_no, lft_some, lft_none, truth, cmpop, D_non, D_bl, D_int, D_str, D_tup, D_lst, P_non, P_bl, P_int, P_str, P_tup, P_lst, P_nil, P_cons, eqM_d, isIn_t, isIn_l, vw_t, vw_l, vw_s, vw_i, vw_b, eqv_ss, eqv_ii, item_t, atI, mkl, anyEq, maxD]) ?_
    refine rb_ret ?_
    refine call_c (vs := [.lst [encL (pcards A s x), encL (pcards A t x)]]) (m' := m) ?_ hu
    simp [x_k, x_loc, x_glo, x_bin, x_neg, x_not, x_and, x_or, x_cmp, x_cmp2, x_ite, x_nil, x_cons, x_tup, x_lst, x_ix, x_sl, x_call, x_bf, x_isi, x_rng, x_zip, x_zip3, x_enu, x_rng2, x_comp, x_dget, x_index, x_indexc, x_tell, s_skip, s_seq, s_ex, s_ret, s_asg, s_par, s_ite, s_for, thenS_next, thenS_ret, fin_ret, fin_next, ob_some, obl_bl, bnd_if, lft_if, unl, bnd_ok, bnd_no, lft_some, lft_none, truth, D_non, D_bl, D_int, D_str, D_tup, D_lst, P_non, P_bl, P_int, P_str, P_tup, P_lst, P_nil, P_cons, eqM_d, isIn_t, isIn_l, asg, vw_t, vw_l, vw_s, vw_i, vw_b, eqv_ss, eqv_ii, item_t, atI, slice, optI, small, cut, bound, compL, cmpB, compT, wipeP, tstB, noexc, r1, r2, mkl]
  | ite t s u ihs ihu =>
    intro ok hN x n m
    obtain ⟨a, b, c, q⟩ := x
    simp only [Pol.dp] at hN
    have m1 := NC_mono (show s.dp ≤ max s.dp u.dp by omega)
    have m2 := NC_mono (show u.dp ≤ max s.dp u.dp by omega)
    simp only [NC] at hN
    generalize hM : max t.ht (max s.ht u.ht) = M
    have r1 := fun m => ihs ok.2.1 (by omega) (a, b, c, q) (n + (M - s.ht)) m
    have r2 := fun m => ihu ok.2.2 (by omega) (a, b, c, q) (n + (M - u.ht)) m
    have r3 := fun m => says_in L (a := lay A.a a) (b := lay A.b b) (c := lay A.c c) (p := A.p) t ok.1 (n + 3 + (M - t.ht)) m
    rw [show n + (M - s.ht) + s.ht + 3 = n + M + 3 by omega] at r1
    rw [show n + (M - u.ht) + u.ht + 3 = n + M + 3 by omega] at r2
    rw [show n + 3 + (M - t.ht) + t.ht = n + M + 3 by omega] at r3
    have r4 : ∀ m, run pr (n + M + 3) L.laid_on [hdr A.a A.b A.c, hdr a b c] m = _ := fun m => laid_ L.toRowLib (n := n + M + 2)
    simp only [Pol.ht, Pol.enc, hM]
    rw [show n + (M + 1) + 3 = (n + M + 3) + 1 by omega, L.r_cards_by]
    rw [go_B]
    refine rb_asg (.str [105, 102]) (m' := m) (by simp [x_k, x_loc, x_glo, x_bin, x_neg, x_not, x_and, x_or, x_cmp, x_cmp2, x_ite, x_nil, x_cons, x_tup, x_lst, x_ix, x_sl, x_call, x_bf, x_isi, x_rng, x_zip, x_zip3, x_enu, x_rng2, x_comp, x_dget, x_index, x_indexc, x_tell, s_skip, s_seq, s_ex, s_ret, s_asg, s_par, s_ite, s_for, thenS_next, thenS_ret, fin_ret, fin_next, ob_some, obl_bl, bnd_if, lft_if, unl, bnd_ok, bnd_no, lft_some, lft_none, vw_t, vw_l, vw_s, vw_i, vw_b, eqv_ss, eqv_ii, item_t, atI]) rfl ?_
    refine rb_no (by simp [x_k, x_loc, x_glo, x_bin, x_neg, x_not, x_and, x_or, x_cmp, x_cmp2, x_ite, x_nil, x_cons, x_tup, x_lst, x_ix, x_sl, x_call, x_bf, x_isi, x_rng, x_zip, x_zip3, x_enu, x_rng2, x_comp, x_dget, x_index, x_indexc, x_tell, s_skip, s_seq, s_ex, s_ret, s_asg, s_par, s_ite, s_for, thenS_next, thenS_ret, fin_ret, fin_next, ob_some, obl_bl, bnd_if, lft_if, unl, bnd_ok, bnd_no, lft_some, lft_none, truth, cmpop, D_non, D_bl, D_int, D_str, D_tup, D_lst, P_non, P_bl, P_int, P_str, P_tup, P_lst, P_nil, P_cons, eqM_d, isIn_t, isIn_l, vw_t, vw_l, vw_s, vw_i, vw_b, eqv_ss, eqv_ii, item_t, atI, mkl, anyEq, maxD]) rfl ?_
    refine rb_no (by simp [x_k, x_loc, x_glo, x_bin, x_neg, x_not, x_and, x_or, x_cmp, x_cmp2, x_ite, x_nil, x_cons, x_tup, x_lst, x_ix, x_sl, x_call, x_bf, x_isi, x_rng, x_zip, x_zip3, x_enu, x_rng2, x_comp, x_dget, x_index, x_indexc, x_tell, s_skip, s_seq, s_ex, s_ret, s_asg, s_par, s_ite, s_for, thenS_next, thenS_ret, fin_ret, fin_next, ob_some, obl_bl, bnd_if, lft_if, unl, bnd_ok, bnd_no, lft_some, lft_none, truth, cmpop, D_non, D_bl, D_int, D_str, D_tup, D_lst, P_non, P_bl, P_int, P_str, P_tup, P_lst, P_nil, P_cons, eqM_d, isIn_t, isIn_l, vw_t, vw_l, vw_s, vw_i, vw_b, eqv_ss, eqv_ii, item_t, atI, mkl, anyEq, maxD]) rfl ?_
    refine rb_no (by simp [x_k, x_loc, x_glo, x_bin, x_neg, x_not, x_and, x_or, x_cmp, x_cmp2, x_ite, x_nil, x_cons, x_tup, x_lst, x_ix, x_sl, x_call, x_bf, x_isi, x_rng, x_zip, x_zip3, x_enu, x_rng2, x_comp, x_dget, x_index, x_indexc, x_tell, s_skip, s_seq, s_ex, s_ret, s_asg, s_par, s_ite, s_for, thenS_next, thenS_ret, fin_ret, fin_next, ob_some, obl_bl, bnd_if, lft_if, unl, bnd_ok, bnd_no, lft_some, lft_none, truth, cmpop, D_non, D_bl, D_int, D_str, D_tup, D_lst, P_non, P_bl, P_int, P_str, P_tup, P_lst, P_nil, P_cons, eqM_d, isIn_t, isIn_l, vw_t, vw_l, vw_s, vw_i, vw_b, eqv_ss, eqv_ii, item_t, atI, mkl, anyEq, maxD]) rfl ?_
    refine rb_no (by simp [x_k, x_loc, x_glo, x_bin, x_neg, x_not, x_and, x_or, x_cmp, x_cmp2, x_ite, x_nil, x_cons, x_tup, x_lst, x_ix, x_sl, x_call, x_bf, x_isi, x_rng, x_zip, x_zip3, x_enu, x_rng2, x_comp, x_dget, x_index, x_indexc, x_tell, s_skip, s_seq, s_ex, s_ret, s_asg, s_par, s_ite, s_for, thenS_next, thenS_ret, fin_ret, fin_next, ob_some, obl_bl, bnd_if, lft_if, unl, bnd_ok, bnd_no, lft_some, lft_none, truth, cmpop, D_non, D_bl, D_int, D_str, D_tup, D_lst, P_non, P_bl, P_int, P_str, P_tup, P_lst, P_nil, P_cons, eqM_d, isIn_t, isIn_l, vw_t, vw_l, vw_s, vw_i, vw_b, eqv_ss, eqv_ii, item_t, atI, mkl, anyEq, maxD]) rfl ?_
    refine rb_no (by simp [x_k, x_loc, x_glo, x_bin, x_neg, x_not, x_and, x_or, x_cmp, x_cmp2, x_ite, x_nil, x_cons, x_tup, x_lst, x_ix, x_sl, x_call, x_bf, x_isi, x_rng, x_zip, x_zip3, x_enu, x_rng2, x_comp, x_dget, x_index, x_indexc, x_tell, s_skip, s_seq, s_ex, s_ret, s_asg, s_par, s_ite, s_for, thenS_next, thenS_ret, fin_ret, fin_next, ob_some, obl_bl, bnd_if, lft_if, unl, bnd_ok, bnd_no, lft_some, lft_none, truth, cmpop, D_non, D_bl, D_int, D_str, D_tup, D_lst, P_non, P_bl, P_int, P_str, P_tup, P_lst, P_nil, P_cons, eqM_d, isIn_t, isIn_l, vw_t, vw_l, vw_s, vw_i, vw_b, eqv_ss, eqv_ii, item_t, atI, mkl, anyEq, maxD]) rfl ?_
    refine rb_no (by simp [x_k, x_loc, x_glo, x_bin, x_neg, x_not, x_and, x_or, x_cmp, x_cmp2, x_ite, x_nil, x_cons, x_tup, x_lst, x_ix, x_sl, x_call, x_bf, x_isi, x_rng, x_zip, x_zip3, x_enu, x_rng2, x_comp, x_dget, x_index, x_indexc, x_tell, s_skip, s_seq, s_ex, s_ret, s_asg, s_par, s_ite, s_for, thenS_next, thenS_ret, fin_ret, fin_next, ob_some, obl_bl, bnd_if, lft_if, unl, bnd_ok, bnd_no, lft_some, lft_none, truth, cmpop, D_non, D_bl, D_int, D_str, D_tup, D_lst, P_non, P_bl, P_int, P_str, P_tup, P_lst, P_nil, P_cons, eqM_d, isIn_t, isIn_l, vw_t, vw_l, vw_s, vw_i, vw_b, eqv_ss, eqv_ii, item_t, atI, mkl, anyEq, maxD]) rfl ?_
    refine rb_no (by simp [x_k, x_loc, x_glo, x_bin, x_neg, x_not, x_and, x_or, x_cmp, x_cmp2, x_ite, x_nil, x_cons, x_tup, x_lst, x_ix, x_sl, x_call, x_bf, x_isi, x_rng, x_zip, x_zip3, x_enu, x_rng2, x_comp, x_dget, x_index, x_indexc, x_tell, s_skip, s_seq, s_ex, s_ret, s_asg, s_par, s_ite, s_for, thenS_next, thenS_ret, fin_ret, fin_next, ob_some, obl_bl, bnd_if, lft_if, unl, bnd_ok, bnd_no, lft_some, lft_none, truth, cmpop, D_non, D_bl, D_int, D_str, D_tup, D_lst, P_non, P_bl, P_int, P_str, P_tup, P_lst, P_nil, P_cons, eqM_d, isIn_t, isIn_l, vw_t, vw_l, vw_s, vw_i, vw_b, eqv_ss, eqv_ii, item_t, atI, mkl, anyEq, maxD]) rfl ?_
    refine rb_asg (if passAt A t (a, b, c, q) = true then s.enc else u.enc) (m' := m) ?_ rfl ?_
    · simp only [encC]
      simp [x_k, x_loc, x_glo, x_bin, x_neg, x_not, x_and, x_or, x_cmp, x_cmp2, x_ite, x_nil, x_cons, x_tup, x_lst, x_ix, x_sl, x_call, x_bf, x_isi, x_rng, x_zip, x_zip3, x_enu, x_rng2, x_comp, x_dget, x_index, x_indexc, x_tell, s_skip, s_seq, s_ex, s_ret, s_asg, s_par, s_ite, s_for, thenS_next, thenS_ret, fin_ret, fin_next, ob_some, obl_bl, bnd_if, lft_if, unl, bnd_ok, bnd_no, lft_some, lft_none, vw_t, vw_l, vw_s, vw_i, vw_b, eqv_ss, eqv_ii, item_t, atI, r3, r4, truth, passAt]
      by_cases h : t.says (lay A.a a) (lay A.b b) (lay A.c c) A.p = true <;> simp [h]
    · refine rb_last ?_
      by_cases h : passAt A t (a, b, c, q) = true <;> simp [x_k, x_loc, x_glo, x_bin, x_neg, x_not, x_and, x_or, x_cmp, x_cmp2, x_ite, x_nil, x_cons, x_tup, x_lst, x_ix, x_sl, x_call, x_bf, x_isi, x_rng, x_zip, x_zip3, x_enu, x_rng2, x_comp, x_dget, x_index, x_indexc, x_tell, s_skip, s_seq, s_ex, s_ret, s_asg, s_par, s_ite, s_for, thenS_next, thenS_ret, fin_ret, fin_next, ob_some, obl_bl, bnd_if, lft_if, unl, bnd_ok, bnd_no, lft_some, lft_none, h, r1, r2, pcards]
  | at_ ws s ihs =>
    intro ok hN x n m
    simp only [Pol.dp, NC] at hN
    have r1 := fun m => ihs ok.2 (by omega) x n m
    have q : isIn m (.int A.sw) (.tup (ws.map .int)) = some (ws.contains A.sw) := by
      have h1 := ok.1
      simp only [swL, List.mem_cons, List.not_mem_nil, or_false] at h1
      rcases h1 with rfl | rfl | rfl | rfl | rfl <;> simp [isIn, vw_t, vw_i, D_non, D_bl, D_int, D_str, D_tup, D_lst, P_non, P_bl, P_int, P_str, P_tup, P_lst, P_nil, P_cons, eqM_d, isIn_t, isIn_l, anyEq, eqv_ii, maxD] <;> (rw [Bool.eq_iff_iff]; simp; try omega)
    simp only [Pol.ht, Pol.enc]
    rw [show n + (s.ht + 1) + 3 = (n + s.ht + 3) + 1 by omega, L.r_cards_by]
    rw [go_B]
    refine rb_asg (.str [97, 116]) (m' := m) (by simp [x_k, x_loc, x_glo, x_bin, x_neg, x_not, x_and, x_or, x_cmp, x_cmp2, x_ite, x_nil, x_cons, x_tup, x_lst, x_ix, x_sl, x_call, x_bf, x_isi, x_rng, x_zip, x_zip3, x_enu, x_rng2, x_comp, x_dget, x_index, x_indexc, x_tell, s_skip, s_seq, s_ex, s_ret, s_asg, s_par, s_ite, s_for, thenS_next, thenS_ret, fin_ret, fin_next, ob_some, obl_bl, bnd_if, lft_if, unl, bnd_ok, bnd_no, lft_some, lft_none, vw_t, vw_l, vw_s, vw_i, vw_b, eqv_ss, eqv_ii, item_t, atI]) rfl ?_
    refine rb_no (by simp [x_k, x_loc, x_glo, x_bin, x_neg, x_not, x_and, x_or, x_cmp, x_cmp2, x_ite, x_nil, x_cons, x_tup, x_lst, x_ix, x_sl, x_call, x_bf, x_isi, x_rng, x_zip, x_zip3, x_enu, x_rng2, x_comp, x_dget, x_index, x_indexc, x_tell, s_skip, s_seq, s_ex, s_ret, s_asg, s_par, s_ite, s_for, thenS_next, thenS_ret, fin_ret, fin_next, ob_some, obl_bl, bnd_if, lft_if, unl, bnd_ok, bnd_no, lft_some, lft_none, truth, cmpop, D_non, D_bl, D_int, D_str, D_tup, D_lst, P_non, P_bl, P_int, P_str, P_tup, P_lst, P_nil, P_cons, eqM_d, isIn_t, isIn_l, vw_t, vw_l, vw_s, vw_i, vw_b, eqv_ss, eqv_ii, item_t, atI, mkl, anyEq, maxD]) rfl ?_
    refine rb_no (by simp [x_k, x_loc, x_glo, x_bin, x_neg, x_not, x_and, x_or, x_cmp, x_cmp2, x_ite, x_nil, x_cons, x_tup, x_lst, x_ix, x_sl, x_call, x_bf, x_isi, x_rng, x_zip, x_zip3, x_enu, x_rng2, x_comp, x_dget, x_index, x_indexc, x_tell, s_skip, s_seq, s_ex, s_ret, s_asg, s_par, s_ite, s_for, thenS_next, thenS_ret, fin_ret, fin_next, ob_some, obl_bl, bnd_if, lft_if, unl, bnd_ok, bnd_no, lft_some, lft_none, truth, cmpop, D_non, D_bl, D_int, D_str, D_tup, D_lst, P_non, P_bl, P_int, P_str, P_tup, P_lst, P_nil, P_cons, eqM_d, isIn_t, isIn_l, vw_t, vw_l, vw_s, vw_i, vw_b, eqv_ss, eqv_ii, item_t, atI, mkl, anyEq, maxD]) rfl ?_
    refine rb_no (by simp [x_k, x_loc, x_glo, x_bin, x_neg, x_not, x_and, x_or, x_cmp, x_cmp2, x_ite, x_nil, x_cons, x_tup, x_lst, x_ix, x_sl, x_call, x_bf, x_isi, x_rng, x_zip, x_zip3, x_enu, x_rng2, x_comp, x_dget, x_index, x_indexc, x_tell, s_skip, s_seq, s_ex, s_ret, s_asg, s_par, s_ite, s_for, thenS_next, thenS_ret, fin_ret, fin_next, ob_some, obl_bl, bnd_if, lft_if, unl, bnd_ok, bnd_no, lft_some, lft_none, truth, cmpop, D_non, D_bl, D_int, D_str, D_tup, D_lst, P_non, P_bl, P_int, P_str, P_tup, P_lst, P_nil, P_cons, eqM_d, isIn_t, isIn_l, vw_t, vw_l, vw_s, vw_i, vw_b, eqv_ss, eqv_ii, item_t, atI, mkl, anyEq, maxD]) rfl ?_
    refine rb_no (by simp [x_k, x_loc, x_glo, x_bin, x_neg, x_not, x_and, x_or, x_cmp, x_cmp2, x_ite, x_nil, x_cons, x_tup, x_lst, x_ix, x_sl, x_call, x_bf, x_isi, x_rng, x_zip, x_zip3, x_enu, x_rng2, x_comp, x_dget, x_index, x_indexc, x_tell, s_skip, s_seq, s_ex, s_ret, s_asg, s_par, s_ite, s_for, thenS_next, thenS_ret, fin_ret, fin_next, ob_some, obl_bl, bnd_if, lft_if, unl, bnd_ok, bnd_no, lft_some, lft_none, truth, cmpop, D_non, D_bl, D_int, D_str, D_tup, D_lst, P_non, P_bl, P_int, P_str, P_tup, P_lst, P_nil, P_cons, eqM_d, isIn_t, isIn_l, vw_t, vw_l, vw_s, vw_i, vw_b, eqv_ss, eqv_ii, item_t, atI, mkl, anyEq, maxD]) rfl ?_
    refine rb_no (by simp [x_k, x_loc, x_glo, x_bin, x_neg, x_not, x_and, x_or, x_cmp, x_cmp2, x_ite, x_nil, x_cons, x_tup, x_lst, x_ix, x_sl, x_call, x_bf, x_isi, x_rng, x_zip, x_zip3, x_enu, x_rng2, x_comp, x_dget, x_index, x_indexc, x_tell, s_skip, s_seq, s_ex, s_ret, s_asg, s_par, s_ite, s_for, thenS_next, thenS_ret, fin_ret, fin_next, ob_some, obl_bl, bnd_if, lft_if, unl, bnd_ok, bnd_no, lft_some, lft_none, truth, cmpop, D_non, D_bl, D_int, D_str, D_tup, D_lst, P_non, P_bl, P_int, P_str, P_tup, P_lst, P_nil, P_cons, eqM_d, isIn_t, isIn_l, vw_t, vw_l, vw_s, vw_i, vw_b, eqv_ss, eqv_ii, item_t, atI, mkl, anyEq, maxD]) rfl ?_
    refine rb_no (by simp [x_k, x_loc, x_glo, x_bin, x_neg, x_not, x_and, x_or, x_cmp, x_cmp2, x_ite, x_nil, x_cons, x_tup, x_lst, x_ix, x_sl, x_call, x_bf, x_isi, x_rng, x_zip, x_zip3, x_enu, x_rng2, x_comp, x_dget, x_index, x_indexc, x_tell, s_skip, s_seq, s_ex, s_ret, s_asg, s_par, s_ite, s_for, thenS_next, thenS_ret, fin_ret, fin_next, ob_some, obl_bl, bnd_if, lft_if, unl, bnd_ok, bnd_no, lft_some, lft_none, truth, cmpop, D_non, D_bl, D_int, D_str, D_tup, D_lst, P_non, P_bl, P_int, P_str, P_tup, P_lst, P_nil, P_cons, eqM_d, isIn_t, isIn_l, vw_t, vw_l, vw_s, vw_i, vw_b, eqv_ss, eqv_ii, item_t, atI, mkl, anyEq, maxD]) rfl ?_
    refine rb_yes (by simp [x_k, x_loc, x_glo, x_bin, x_neg, x_not, x_and, x_or, x_cmp, x_cmp2, x_ite, x_nil, x_cons, x_tup, x_lst, x_ix, x_sl, x_call, x_bf, x_isi, x_rng, x_zip, x_zip3, x_enu, x_rng2, x_comp, x_dget, x_index, x_indexc, x_tell, s_skip, s_seq, s_ex, s_ret, s_asg, s_par, s_ite, s_for, thenS_next, thenS_ret, fin_ret, fin_next, ob_some, obl_bl, bnd_if, lft_if, unl, bnd_ok, bnd_no, lft_some, lft_none, truth, cmpop, D_non, D_bl, D_int, D_str, D_tup, D_lst, P_non, P_bl, P_int, P_str, P_tup, P_lst, P_nil, P_cons, eqM_d, isIn_t, isIn_l, vw_t, vw_l, vw_s, vw_i, vw_b, eqv_ss, eqv_ii, item_t, atI, mkl, anyEq, maxD]) ?_
    refine rb_ret ?_
    simp [x_k, x_loc, x_glo, x_bin, x_neg, x_not, x_and, x_or, x_cmp, x_cmp2, x_ite, x_nil, x_cons, x_tup, x_lst, x_ix, x_sl, x_call, x_bf, x_isi, x_rng, x_zip, x_zip3, x_enu, x_rng2, x_comp, x_dget, x_index, x_indexc, x_tell, s_skip, s_seq, s_ex, s_ret, s_asg, s_par, s_ite, s_for, thenS_next, thenS_ret, fin_ret, fin_next, ob_some, obl_bl, bnd_if, lft_if, unl, bnd_ok, bnd_no, lft_some, lft_none, truth, cmpop, D_non, D_bl, D_int, D_str, D_tup, D_lst, P_non, P_bl, P_int, P_str, P_tup, P_lst, P_nil, P_cons, eqM_d, isIn_t, isIn_l, vw_t, vw_l, vw_s, vw_i, vw_b, eqv_ss, eqv_ii, item_t, atI, q, r1, pcards, mkl]
    by_cases h : A.sw ∈ ws <;> simp [h]
end
end Pv
set_option maxHeartbeats 4000000
namespace Pv
/-! ## The law's own cards -/
theorem forL_inv {α β : Type} {f : PV → Env → Mem → R (Fl × Env)} {m : Mem} (enc : α → PV) (step : β → α → β) (E : β → Option PV → Env) (Q : List α → β → Prop) (h : ∀ b o x l, Q (x :: l) b → f (enc x) (E b o) m = .ok (.next, E (step b x) (some (enc x))) m ∧ Q l (step b x)) : ∀ (l : List α) (b : β) (o : Option PV), Q l b → ∃ o', forL f (l.map enc) (E b o) m = .ok (.next, E (l.foldl step b) o') m
  | [], b, o, _ => ⟨o, rfl⟩
  | x :: l, b, o, q => by
    obtain ⟨h1, h2⟩ := h b o x l q
    obtain ⟨o', e⟩ := forL_inv enc step E Q h l (step b x) (some (enc x)) h2
    refine ⟨o', ?_⟩
    rw [List.map_cons]
    unfold forL
    rw [h1]
    exact e
theorem foldl_flat {α β : Type} (g : α → List β) : ∀ (l : List α) (b : List β), l.foldl (fun b x => b ++ g x) b = b ++ l.flatMap g
  | [], b => by simp
  | x :: l, b => by rw [List.foldl_cons, foldl_flat g l, List.flatMap_cons, List.append_assoc]
theorem flat_sum {α β : Type} {g : α → List β} : ∀ {l : List α}, (l.flatMap g).length = (l.map fun x => (g x).length).sum
  | [] => rfl
  | x :: l => by rw [List.flatMap_cons, List.length_append, List.map_cons, List.sum_cons, flat_sum]
theorem binL {a b : List Card} {m : Mem} (h : a.length + b.length ≤ 1000) : binop false .add (encL a) (encL b) m = .ok (encL (a ++ b)) m := by
  unfold binop
  simp only [vw_l, List.length_map]
  rw [if_pos (show a.length + b.length ≤ big by unfold big; omega), ← List.map_append]
  exact mk_cards (l := a ++ b)
theorem sortset_cards {l : List Card} {m : Mem} (h : l.length < 64) : callB false .sortset [encL l] m = .ok (encL (sortC l)) m := by
  have q := cards_setable h
  have q2 := cards_sortable l
  unfold callB
  simp only [q, q2, Bool.and_self, if_true]
  rw [sortC_map]
  exact mk_cards (l := sortC l)
/-- a switch and a row -/
def rowAt (sw row : Int) : At := ⟨sw, row / 16 % 4, row / 4 % 4, row % 4, row / 64⟩
section
variable {pr : Prg}
theorem header_ (L : RowLib pr) {n : Nat} {r : Int} {m : Mem} : run pr (n + 1) L.header_in [.int r] m = .ok (hdr (r / 16 % 4) (r / 4 % 4) (r % 4)) m := by
  rw [L.r_header_in]
  simp [goP, S_header_in, x_k, x_loc, x_glo, x_bin, x_neg, x_not, x_and, x_or, x_cmp, x_cmp2, x_ite, x_nil, x_cons, x_tup, x_lst, x_ix, x_sl, x_call, x_bf, x_isi, x_rng, x_zip, x_zip3, x_enu, x_rng2, x_comp, x_dget, x_index, x_indexc, x_tell, s_skip, s_seq, s_ex, s_ret, s_asg, s_par, s_ite, s_for, thenS_next, thenS_ret, fin_ret, fin_next, ob_some, obl_bl, bnd_if, lft_if, unl, bnd_ok, bnd_no, lft_some, lft_none, binop, arith, vw_t, vw_l, vw_s, vw_i, vw_b, eqv_ss, eqv_ii, item_t, atI, D_non, D_bl, D_int, D_str, D_tup, D_lst, P_non, P_bl, P_int, P_str, P_tup, P_lst, P_nil, P_cons, eqM_d, isIn_t, isIn_l]
theorem port_ (L : RowLib pr) {n : Nat} {r : Int} {m : Mem} : run pr (n + 1) L.port_in [.int r] m = .ok (.int (r / 64)) m := by
  rw [L.r_port_in]
  simp [goP, S_port_in, x_k, x_loc, x_glo, x_bin, x_neg, x_not, x_and, x_or, x_cmp, x_cmp2, x_ite, x_nil, x_cons, x_tup, x_lst, x_ix, x_sl, x_call, x_bf, x_isi, x_rng, x_zip, x_zip3, x_enu, x_rng2, x_comp, x_dget, x_index, x_indexc, x_tell, s_skip, s_seq, s_ex, s_ret, s_asg, s_par, s_ite, s_for, thenS_next, thenS_ret, fin_ret, fin_next, ob_some, obl_bl, bnd_if, lft_if, unl, bnd_ok, bnd_no, lft_some, lft_none, binop, arith, vw_t, vw_l, vw_s, vw_i, vw_b, eqv_ss, eqv_ii, item_t, atI, D_non, D_bl, D_int, D_str, D_tup, D_lst, P_non, P_bl, P_int, P_str, P_tup, P_lst, P_nil, P_cons, eqM_d, isIn_t, isIn_l]
theorem ownheader_ (L : OwnLib pr) {n : Nat} {r : Int} {m : Mem} : run pr (n + 1) L.law_header [.int r] m = .ok (hdr (r / 16 % 4) (r / 4 % 4) (r % 4)) m := by
  rw [L.r_law_header]
  simp [goP, S_law_header, x_k, x_loc, x_glo, x_bin, x_neg, x_not, x_and, x_or, x_cmp, x_cmp2, x_ite, x_nil, x_cons, x_tup, x_lst, x_ix, x_sl, x_call, x_bf, x_isi, x_rng, x_zip, x_zip3, x_enu, x_rng2, x_comp, x_dget, x_index, x_indexc, x_tell, s_skip, s_seq, s_ex, s_ret, s_asg, s_par, s_ite, s_for, thenS_next, thenS_ret, fin_ret, fin_next, ob_some, obl_bl, bnd_if, lft_if, unl, bnd_ok, bnd_no, lft_some, lft_none, binop, arith, callB, vw_t, vw_l, vw_s, vw_i, vw_b, eqv_ss, eqv_ii, item_t, atI, D_non, D_bl, D_int, D_str, D_tup, D_lst, P_non, P_bl, P_int, P_str, P_tup, P_lst, P_nil, P_cons, eqM_d, isIn_t, isIn_l]
theorem lay_lt {a x : Int} (h : -1 ≤ x) : (if x < 0 then a else x) = lay a x := by
  unfold lay
  by_cases e : x = -1
  · subst e; rfl
  · rw [if_neg e, if_neg (by omega)]
theorem lawcards_ (L : OwnLib pr) (sw row : Int) : ∀ (p : Pol), p.ok → NC p.dp ≤ 63 → ∀ (x : Card), OkC x → ∀ (n : Nat) (m : Mem), run pr (n + p.ht + 3) L.law_cards [p.enc, .int sw, .int row, encC x] m = .ok (encL (lcards (rowAt sw row) p x)) m := by
  intro p
  induction p with
  | drop =>
    intro _ _ x okx n m
    simp only [Pol.ht, Pol.enc]
    rw [show n + 1 + 3 = (n + 3) + 1 from rfl, L.r_law_cards, go_B]
    refine rb_asg (.str [100, 114, 111, 112]) (m' := m) (by simp [x_k, x_loc, x_glo, x_bin, x_neg, x_not, x_and, x_or, x_cmp, x_cmp2, x_ite, x_nil, x_cons, x_tup, x_lst, x_ix, x_sl, x_call, x_bf, x_isi, x_rng, x_zip, x_zip3, x_enu, x_rng2, x_comp, x_dget, x_index, x_indexc, x_tell, s_skip, s_seq, s_ex, s_ret, s_asg, s_par, s_ite, s_for, thenS_next, thenS_ret, fin_ret, fin_next, ob_some, obl_bl, bnd_if, lft_if, unl, bnd_ok, bnd_no, lft_some, lft_none, vw_t, vw_l, vw_s, vw_i, vw_b, eqv_ss, eqv_ii, item_t, atI]) rfl ?_
    refine rb_yes (by simp [x_k, x_loc, x_glo, x_bin, x_neg, x_not, x_and, x_or, x_cmp, x_cmp2, x_ite, x_nil, x_cons, x_tup, x_lst, x_ix, x_sl, x_call, x_bf, x_isi, x_rng, x_zip, x_zip3, x_enu, x_rng2, x_comp, x_dget, x_index, x_indexc, x_tell, s_skip, s_seq, s_ex, s_ret, s_asg, s_par, s_ite, s_for, thenS_next, thenS_ret, fin_ret, fin_next, ob_some, obl_bl, bnd_if, lft_if, unl, bnd_ok, bnd_no, lft_some, lft_none, truth, cmpop, D_non, D_bl, D_int, D_str, D_tup, D_lst, P_non, P_bl, P_int, P_str, P_tup, P_lst, P_nil, P_cons, eqM_d, isIn_t, isIn_l, vw_t, vw_l, vw_s, vw_i, vw_b, eqv_ss, eqv_ii, item_t, atI, mkl, anyEq, maxD]) ?_
    refine rb_ret ?_
    simp [x_k, x_loc, x_glo, x_bin, x_neg, x_not, x_and, x_or, x_cmp, x_cmp2, x_ite, x_nil, x_cons, x_tup, x_lst, x_ix, x_sl, x_call, x_bf, x_isi, x_rng, x_zip, x_zip3, x_enu, x_rng2, x_comp, x_dget, x_index, x_indexc, x_tell, s_skip, s_seq, s_ex, s_ret, s_asg, s_par, s_ite, s_for, thenS_next, thenS_ret, fin_ret, fin_next, ob_some, obl_bl, bnd_if, lft_if, unl, bnd_ok, bnd_no, lft_some, lft_none, truth, cmpop, D_non, D_bl, D_int, D_str, D_tup, D_lst, P_non, P_bl, P_int, P_str, P_tup, P_lst, P_nil, P_cons, eqM_d, isIn_t, isIn_l, vw_t, vw_l, vw_s, vw_i, vw_b, eqv_ss, eqv_ii, item_t, atI, mkl, lcards]
  | pass =>
    intro _ _ x okx n m
    simp only [Pol.ht, Pol.enc]
    rw [show n + 1 + 3 = (n + 3) + 1 from rfl, L.r_law_cards, go_B]
    refine rb_asg (.str [112, 97, 115, 115]) (m' := m) (by simp [x_k, x_loc, x_glo, x_bin, x_neg, x_not, x_and, x_or, x_cmp, x_cmp2, x_ite, x_nil, x_cons, x_tup, x_lst, x_ix, x_sl, x_call, x_bf, x_isi, x_rng, x_zip, x_zip3, x_enu, x_rng2, x_comp, x_dget, x_index, x_indexc, x_tell, s_skip, s_seq, s_ex, s_ret, s_asg, s_par, s_ite, s_for, thenS_next, thenS_ret, fin_ret, fin_next, ob_some, obl_bl, bnd_if, lft_if, unl, bnd_ok, bnd_no, lft_some, lft_none, vw_t, vw_l, vw_s, vw_i, vw_b, eqv_ss, eqv_ii, item_t, atI]) rfl ?_
    refine rb_yes (by simp [x_k, x_loc, x_glo, x_bin, x_neg, x_not, x_and, x_or, x_cmp, x_cmp2, x_ite, x_nil, x_cons, x_tup, x_lst, x_ix, x_sl, x_call, x_bf, x_isi, x_rng, x_zip, x_zip3, x_enu, x_rng2, x_comp, x_dget, x_index, x_indexc, x_tell, s_skip, s_seq, s_ex, s_ret, s_asg, s_par, s_ite, s_for, thenS_next, thenS_ret, fin_ret, fin_next, ob_some, obl_bl, bnd_if, lft_if, unl, bnd_ok, bnd_no, lft_some, lft_none, truth, cmpop, D_non, D_bl, D_int, D_str, D_tup, D_lst, P_non, P_bl, P_int, P_str, P_tup, P_lst, P_nil, P_cons, eqM_d, isIn_t, isIn_l, vw_t, vw_l, vw_s, vw_i, vw_b, eqv_ss, eqv_ii, item_t, atI, mkl, anyEq, maxD]) ?_
    refine rb_ret ?_
    simp [x_k, x_loc, x_glo, x_bin, x_neg, x_not, x_and, x_or, x_cmp, x_cmp2, x_ite, x_nil, x_cons, x_tup, x_lst, x_ix, x_sl, x_call, x_bf, x_isi, x_rng, x_zip, x_zip3, x_enu, x_rng2, x_comp, x_dget, x_index, x_indexc, x_tell, s_skip, s_seq, s_ex, s_ret, s_asg, s_par, s_ite, s_for, thenS_next, thenS_ret, fin_ret, fin_next, ob_some, obl_bl, bnd_if, lft_if, unl, bnd_ok, bnd_no, lft_some, lft_none, truth, cmpop, D_non, D_bl, D_int, D_str, D_tup, D_lst, P_non, P_bl, P_int, P_str, P_tup, P_lst, P_nil, P_cons, eqM_d, isIn_t, isIn_l, vw_t, vw_l, vw_s, vw_i, vw_b, eqv_ss, eqv_ii, item_t, atI, mkl, lcards, encC_D]
  | set f v =>
    intro ok _ x okx n m
    obtain ⟨a, b, c, q⟩ := x
    simp only [Pol.ht, Pol.enc]
    rw [show n + 1 + 3 = (n + 3) + 1 from rfl, L.r_law_cards, go_B]
    refine rb_asg (.str [115, 101, 116]) (m' := m) (by simp [x_k, x_loc, x_glo, x_bin, x_neg, x_not, x_and, x_or, x_cmp, x_cmp2, x_ite, x_nil, x_cons, x_tup, x_lst, x_ix, x_sl, x_call, x_bf, x_isi, x_rng, x_zip, x_zip3, x_enu, x_rng2, x_comp, x_dget, x_index, x_indexc, x_tell, s_skip, s_seq, s_ex, s_ret, s_asg, s_par, s_ite, s_for, thenS_next, thenS_ret, fin_ret, fin_next, ob_some, obl_bl, bnd_if, lft_if, unl, bnd_ok, bnd_no, lft_some, lft_none, vw_t, vw_l, vw_s, vw_i, vw_b, eqv_ss, eqv_ii, item_t, atI]) rfl ?_
    refine rb_no (by simp [x_k, x_loc, x_glo, x_bin, x_neg, x_not, x_and, x_or, x_cmp, x_cmp2, x_ite, x_nil, x_cons, x_tup, x_lst, x_ix, x_sl, x_call, x_bf, x_isi, x_rng, x_zip, x_zip3, x_enu, x_rng2, x_comp, x_dget, x_index, x_indexc, x_tell, s_skip, s_seq, s_ex, s_ret, s_asg, s_par, s_ite, s_for, thenS_next, thenS_ret, fin_ret, fin_next, ob_some, obl_bl, bnd_if, lft_if, unl, bnd_ok, bnd_no, lft_some, lft_none, truth, cmpop, D_non, D_bl, D_int, D_str, D_tup, D_lst, P_non, P_bl, P_int, P_str, P_tup, P_lst, P_nil, P_cons, eqM_d, isIn_t, isIn_l, vw_t, vw_l, vw_s, vw_i, vw_b, eqv_ss, eqv_ii, item_t, atI, mkl, anyEq, maxD]) rfl ?_
    refine rb_yes (by simp [x_k, x_loc, x_glo, x_bin, x_neg, x_not, x_and, x_or, x_cmp, x_cmp2, x_ite, x_nil, x_cons, x_tup, x_lst, x_ix, x_sl, x_call, x_bf, x_isi, x_rng, x_zip, x_zip3, x_enu, x_rng2, x_comp, x_dget, x_index, x_indexc, x_tell, s_skip, s_seq, s_ex, s_ret, s_asg, s_par, s_ite, s_for, thenS_next, thenS_ret, fin_ret, fin_next, ob_some, obl_bl, bnd_if, lft_if, unl, bnd_ok, bnd_no, lft_some, lft_none, truth, cmpop, D_non, D_bl, D_int, D_str, D_tup, D_lst, P_non, P_bl, P_int, P_str, P_tup, P_lst, P_nil, P_cons, eqM_d, isIn_t, isIn_l, vw_t, vw_l, vw_s, vw_i, vw_b, eqv_ss, eqv_ii, item_t, atI, mkl, anyEq, maxD]) ?_
    refine rb_seq ?_
    have hf := ok.1
    refine rb_asg (.int f) (m' := m) ?_ rfl ?_
    · rcases f with _ | _ | _ | f
      · simp [x_k, x_loc, x_glo, x_bin, x_neg, x_not, x_and, x_or, x_cmp, x_cmp2, x_ite, x_nil, x_cons, x_tup, x_lst, x_ix, x_sl, x_call, x_bf, x_isi, x_rng, x_zip, x_zip3, x_enu, x_rng2, x_comp, x_dget, x_index, x_indexc, x_tell, s_skip, s_seq, s_ex, s_ret, s_asg, s_par, s_ite, s_for, thenS_next, thenS_ret, fin_ret, fin_next, ob_some, obl_bl, bnd_if, lft_if, unl, bnd_ok, bnd_no, lft_some, lft_none, vw_t, vw_l, vw_s, vw_i, vw_b, eqv_ss, eqv_ii, item_t, atI, fw, mkl, D_non, D_bl, D_int, D_str, D_tup, D_lst, P_non, P_bl, P_int, P_str, P_tup, P_lst, P_nil, P_cons, eqM_d, isIn_t, isIn_l, depAll, PV.dep, List.findIdx?_cons]
      · simp [x_k, x_loc, x_glo, x_bin, x_neg, x_not, x_and, x_or, x_cmp, x_cmp2, x_ite, x_nil, x_cons, x_tup, x_lst, x_ix, x_sl, x_call, x_bf, x_isi, x_rng, x_zip, x_zip3, x_enu, x_rng2, x_comp, x_dget, x_index, x_indexc, x_tell, s_skip, s_seq, s_ex, s_ret, s_asg, s_par, s_ite, s_for, thenS_next, thenS_ret, fin_ret, fin_next, ob_some, obl_bl, bnd_if, lft_if, unl, bnd_ok, bnd_no, lft_some, lft_none, vw_t, vw_l, vw_s, vw_i, vw_b, eqv_ss, eqv_ii, item_t, atI, fw, mkl, D_non, D_bl, D_int, D_str, D_tup, D_lst, P_non, P_bl, P_int, P_str, P_tup, P_lst, P_nil, P_cons, eqM_d, isIn_t, isIn_l, depAll, PV.dep, List.findIdx?_cons]
      · simp [x_k, x_loc, x_glo, x_bin, x_neg, x_not, x_and, x_or, x_cmp, x_cmp2, x_ite, x_nil, x_cons, x_tup, x_lst, x_ix, x_sl, x_call, x_bf, x_isi, x_rng, x_zip, x_zip3, x_enu, x_rng2, x_comp, x_dget, x_index, x_indexc, x_tell, s_skip, s_seq, s_ex, s_ret, s_asg, s_par, s_ite, s_for, thenS_next, thenS_ret, fin_ret, fin_next, ob_some, obl_bl, bnd_if, lft_if, unl, bnd_ok, bnd_no, lft_some, lft_none, vw_t, vw_l, vw_s, vw_i, vw_b, eqv_ss, eqv_ii, item_t, atI, fw, mkl, D_non, D_bl, D_int, D_str, D_tup, D_lst, P_non, P_bl, P_int, P_str, P_tup, P_lst, P_nil, P_cons, eqM_d, isIn_t, isIn_l, depAll, PV.dep, List.findIdx?_cons]
      · omega
    refine rb_ret ?_
    rcases f with _ | _ | _ | f
    · simp [x_k, x_loc, x_glo, x_bin, x_neg, x_not, x_and, x_or, x_cmp, x_cmp2, x_ite, x_nil, x_cons, x_tup, x_lst, x_ix, x_sl, x_call, x_bf, x_isi, x_rng, x_zip, x_zip3, x_enu, x_rng2, x_comp, x_dget, x_index, x_indexc, x_tell, s_skip, s_seq, s_ex, s_ret, s_asg, s_par, s_ite, s_for, thenS_next, thenS_ret, fin_ret, fin_next, ob_some, obl_bl, bnd_if, lft_if, unl, bnd_ok, bnd_no, lft_some, lft_none, slice, optI, small, cut, bound, binop, arith, vw_t, vw_l, vw_s, vw_i, vw_b, eqv_ss, eqv_ii, item_t, atI, D_non, D_bl, D_int, D_str, D_tup, D_lst, P_non, P_bl, P_int, P_str, P_tup, P_lst, P_nil, P_cons, eqM_d, isIn_t, isIn_l, inL, putC, big, encC, mkl, lcards]
    · simp [x_k, x_loc, x_glo, x_bin, x_neg, x_not, x_and, x_or, x_cmp, x_cmp2, x_ite, x_nil, x_cons, x_tup, x_lst, x_ix, x_sl, x_call, x_bf, x_isi, x_rng, x_zip, x_zip3, x_enu, x_rng2, x_comp, x_dget, x_index, x_indexc, x_tell, s_skip, s_seq, s_ex, s_ret, s_asg, s_par, s_ite, s_for, thenS_next, thenS_ret, fin_ret, fin_next, ob_some, obl_bl, bnd_if, lft_if, unl, bnd_ok, bnd_no, lft_some, lft_none, slice, optI, small, cut, bound, binop, arith, vw_t, vw_l, vw_s, vw_i, vw_b, eqv_ss, eqv_ii, item_t, atI, D_non, D_bl, D_int, D_str, D_tup, D_lst, P_non, P_bl, P_int, P_str, P_tup, P_lst, P_nil, P_cons, eqM_d, isIn_t, isIn_l, inL, putC, big, encC, mkl, lcards]
    · simp [x_k, x_loc, x_glo, x_bin, x_neg, x_not, x_and, x_or, x_cmp, x_cmp2, x_ite, x_nil, x_cons, x_tup, x_lst, x_ix, x_sl, x_call, x_bf, x_isi, x_rng, x_zip, x_zip3, x_enu, x_rng2, x_comp, x_dget, x_index, x_indexc, x_tell, s_skip, s_seq, s_ex, s_ret, s_asg, s_par, s_ite, s_for, thenS_next, thenS_ret, fin_ret, fin_next, ob_some, obl_bl, bnd_if, lft_if, unl, bnd_ok, bnd_no, lft_some, lft_none, slice, optI, small, cut, bound, binop, arith, vw_t, vw_l, vw_s, vw_i, vw_b, eqv_ss, eqv_ii, item_t, atI, D_non, D_bl, D_int, D_str, D_tup, D_lst, P_non, P_bl, P_int, P_str, P_tup, P_lst, P_nil, P_cons, eqM_d, isIn_t, isIn_l, inL, putC, big, encC, mkl, lcards]
    · omega
  | out q =>
    intro ok _ x okx n m
    obtain ⟨a, b, c, q0⟩ := x
    simp only [Pol.ht, Pol.enc]
    rw [show n + 1 + 3 = (n + 3) + 1 from rfl, L.r_law_cards, go_B]
    refine rb_asg (.str [111, 117, 116]) (m' := m) (by simp [x_k, x_loc, x_glo, x_bin, x_neg, x_not, x_and, x_or, x_cmp, x_cmp2, x_ite, x_nil, x_cons, x_tup, x_lst, x_ix, x_sl, x_call, x_bf, x_isi, x_rng, x_zip, x_zip3, x_enu, x_rng2, x_comp, x_dget, x_index, x_indexc, x_tell, s_skip, s_seq, s_ex, s_ret, s_asg, s_par, s_ite, s_for, thenS_next, thenS_ret, fin_ret, fin_next, ob_some, obl_bl, bnd_if, lft_if, unl, bnd_ok, bnd_no, lft_some, lft_none, vw_t, vw_l, vw_s, vw_i, vw_b, eqv_ss, eqv_ii, item_t, atI]) rfl ?_
    refine rb_no (by simp [x_k, x_loc, x_glo, x_bin, x_neg, x_not, x_and, x_or, x_cmp, x_cmp2, x_ite, x_nil, x_cons, x_tup, x_lst, x_ix, x_sl, x_call, x_bf, x_isi, x_rng, x_zip, x_zip3, x_enu, x_rng2, x_comp, x_dget, x_index, x_indexc, x_tell, s_skip, s_seq, s_ex, s_ret, s_asg, s_par, s_ite, s_for, thenS_next, thenS_ret, fin_ret, fin_next, ob_some, obl_bl, bnd_if, lft_if, unl, bnd_ok, bnd_no, lft_some, lft_none, truth, cmpop, D_non, D_bl, D_int, D_str, D_tup, D_lst, P_non, P_bl, P_int, P_str, P_tup, P_lst, P_nil, P_cons, eqM_d, isIn_t, isIn_l, vw_t, vw_l, vw_s, vw_i, vw_b, eqv_ss, eqv_ii, item_t, atI, mkl, anyEq, maxD]) rfl ?_
    refine rb_no (by simp [x_k, x_loc, x_glo, x_bin, x_neg, x_not, x_and, x_or, x_cmp, x_cmp2, x_ite, x_nil, x_cons, x_tup, x_lst, x_ix, x_sl, x_call, x_bf, x_isi, x_rng, x_zip, x_zip3, x_enu, x_rng2, x_comp, x_dget, x_index, x_indexc, x_tell, s_skip, s_seq, s_ex, s_ret, s_asg, s_par, s_ite, s_for, thenS_next, thenS_ret, fin_ret, fin_next, ob_some, obl_bl, bnd_if, lft_if, unl, bnd_ok, bnd_no, lft_some, lft_none, truth, cmpop, D_non, D_bl, D_int, D_str, D_tup, D_lst, P_non, P_bl, P_int, P_str, P_tup, P_lst, P_nil, P_cons, eqM_d, isIn_t, isIn_l, vw_t, vw_l, vw_s, vw_i, vw_b, eqv_ss, eqv_ii, item_t, atI, mkl, anyEq, maxD]) rfl ?_
    refine rb_yes (by simp [x_k, x_loc, x_glo, x_bin, x_neg, x_not, x_and, x_or, x_cmp, x_cmp2, x_ite, x_nil, x_cons, x_tup, x_lst, x_ix, x_sl, x_call, x_bf, x_isi, x_rng, x_zip, x_zip3, x_enu, x_rng2, x_comp, x_dget, x_index, x_indexc, x_tell, s_skip, s_seq, s_ex, s_ret, s_asg, s_par, s_ite, s_for, thenS_next, thenS_ret, fin_ret, fin_next, ob_some, obl_bl, bnd_if, lft_if, unl, bnd_ok, bnd_no, lft_some, lft_none, truth, cmpop, D_non, D_bl, D_int, D_str, D_tup, D_lst, P_non, P_bl, P_int, P_str, P_tup, P_lst, P_nil, P_cons, eqM_d, isIn_t, isIn_l, vw_t, vw_l, vw_s, vw_i, vw_b, eqv_ss, eqv_ii, item_t, atI, mkl, anyEq, maxD]) ?_
    refine rb_ret ?_
    simp [x_k, x_loc, x_glo, x_bin, x_neg, x_not, x_and, x_or, x_cmp, x_cmp2, x_ite, x_nil, x_cons, x_tup, x_lst, x_ix, x_sl, x_call, x_bf, x_isi, x_rng, x_zip, x_zip3, x_enu, x_rng2, x_comp, x_dget, x_index, x_indexc, x_tell, s_skip, s_seq, s_ex, s_ret, s_asg, s_par, s_ite, s_for, thenS_next, thenS_ret, fin_ret, fin_next, ob_some, obl_bl, bnd_if, lft_if, unl, bnd_ok, bnd_no, lft_some, lft_none, mkl, lcards, encC, vw_t, vw_l, vw_s, vw_i, vw_b, eqv_ss, eqv_ii, item_t, atI, D_non, D_bl, D_int, D_str, D_tup, D_lst, P_non, P_bl, P_int, P_str, P_tup, P_lst, P_nil, P_cons, eqM_d, isIn_t, isIn_l]
  | at_ ws s ihs =>
    intro ok hN x okx n m
    simp only [Pol.dp, NC] at hN
    have r1 := fun m => ihs ok.2 (by omega) x okx n m
    have q : isIn m (.int sw) (.tup (ws.map .int)) = some (ws.contains sw) := by
      have h1 := ok.1
      simp only [swL, List.mem_cons, List.not_mem_nil, or_false] at h1
      rcases h1 with rfl | rfl | rfl | rfl | rfl <;> simp [isIn, vw_t, vw_i, D_non, D_bl, D_int, D_str, D_tup, D_lst, P_non, P_bl, P_int, P_str, P_tup, P_lst, P_nil, P_cons, eqM_d, isIn_t, isIn_l, anyEq, eqv_ii, maxD] <;> (rw [Bool.eq_iff_iff]; simp; try omega)
    simp only [Pol.ht, Pol.enc]
    rw [show n + (s.ht + 1) + 3 = (n + s.ht + 3) + 1 by omega, L.r_law_cards, go_B]
    refine rb_asg (.str [97, 116]) (m' := m) (by simp [x_k, x_loc, x_glo, x_bin, x_neg, x_not, x_and, x_or, x_cmp, x_cmp2, x_ite, x_nil, x_cons, x_tup, x_lst, x_ix, x_sl, x_call, x_bf, x_isi, x_rng, x_zip, x_zip3, x_enu, x_rng2, x_comp, x_dget, x_index, x_indexc, x_tell, s_skip, s_seq, s_ex, s_ret, s_asg, s_par, s_ite, s_for, thenS_next, thenS_ret, fin_ret, fin_next, ob_some, obl_bl, bnd_if, lft_if, unl, bnd_ok, bnd_no, lft_some, lft_none, vw_t, vw_l, vw_s, vw_i, vw_b, eqv_ss, eqv_ii, item_t, atI]) rfl ?_
    refine rb_no (by simp [x_k, x_loc, x_glo, x_bin, x_neg, x_not, x_and, x_or, x_cmp, x_cmp2, x_ite, x_nil, x_cons, x_tup, x_lst, x_ix, x_sl, x_call, x_bf, x_isi, x_rng, x_zip, x_zip3, x_enu, x_rng2, x_comp, x_dget, x_index, x_indexc, x_tell, s_skip, s_seq, s_ex, s_ret, s_asg, s_par, s_ite, s_for, thenS_next, thenS_ret, fin_ret, fin_next, ob_some, obl_bl, bnd_if, lft_if, unl, bnd_ok, bnd_no, lft_some, lft_none, truth, cmpop, D_non, D_bl, D_int, D_str, D_tup, D_lst, P_non, P_bl, P_int, P_str, P_tup, P_lst, P_nil, P_cons, eqM_d, isIn_t, isIn_l, vw_t, vw_l, vw_s, vw_i, vw_b, eqv_ss, eqv_ii, item_t, atI, mkl, anyEq, maxD]) rfl ?_
    refine rb_no (by simp [x_k, x_loc, x_glo, x_bin, x_neg, x_not, x_and, x_or, x_cmp, x_cmp2, x_ite, x_nil, x_cons, x_tup, x_lst, x_ix, x_sl, x_call, x_bf, x_isi, x_rng, x_zip, x_zip3, x_enu, x_rng2, x_comp, x_dget, x_index, x_indexc, x_tell, s_skip, s_seq, s_ex, s_ret, s_asg, s_par, s_ite, s_for, thenS_next, thenS_ret, fin_ret, fin_next, ob_some, obl_bl, bnd_if, lft_if, unl, bnd_ok, bnd_no, lft_some, lft_none, truth, cmpop, D_non, D_bl, D_int, D_str, D_tup, D_lst, P_non, P_bl, P_int, P_str, P_tup, P_lst, P_nil, P_cons, eqM_d, isIn_t, isIn_l, vw_t, vw_l, vw_s, vw_i, vw_b, eqv_ss, eqv_ii, item_t, atI, mkl, anyEq, maxD]) rfl ?_
    refine rb_no (by simp [x_k, x_loc, x_glo, x_bin, x_neg, x_not, x_and, x_or, x_cmp, x_cmp2, x_ite, x_nil, x_cons, x_tup, x_lst, x_ix, x_sl, x_call, x_bf, x_isi, x_rng, x_zip, x_zip3, x_enu, x_rng2, x_comp, x_dget, x_index, x_indexc, x_tell, s_skip, s_seq, s_ex, s_ret, s_asg, s_par, s_ite, s_for, thenS_next, thenS_ret, fin_ret, fin_next, ob_some, obl_bl, bnd_if, lft_if, unl, bnd_ok, bnd_no, lft_some, lft_none, truth, cmpop, D_non, D_bl, D_int, D_str, D_tup, D_lst, P_non, P_bl, P_int, P_str, P_tup, P_lst, P_nil, P_cons, eqM_d, isIn_t, isIn_l, vw_t, vw_l, vw_s, vw_i, vw_b, eqv_ss, eqv_ii, item_t, atI, mkl, anyEq, maxD]) rfl ?_
    refine rb_yes (by simp [x_k, x_loc, x_glo, x_bin, x_neg, x_not, x_and, x_or, x_cmp, x_cmp2, x_ite, x_nil, x_cons, x_tup, x_lst, x_ix, x_sl, x_call, x_bf, x_isi, x_rng, x_zip, x_zip3, x_enu, x_rng2, x_comp, x_dget, x_index, x_indexc, x_tell, s_skip, s_seq, s_ex, s_ret, s_asg, s_par, s_ite, s_for, thenS_next, thenS_ret, fin_ret, fin_next, ob_some, obl_bl, bnd_if, lft_if, unl, bnd_ok, bnd_no, lft_some, lft_none, truth, cmpop, D_non, D_bl, D_int, D_str, D_tup, D_lst, P_non, P_bl, P_int, P_str, P_tup, P_lst, P_nil, P_cons, eqM_d, isIn_t, isIn_l, vw_t, vw_l, vw_s, vw_i, vw_b, eqv_ss, eqv_ii, item_t, atI, mkl, anyEq, maxD]) ?_
    refine rb_ret ?_
    simp [x_k, x_loc, x_glo, x_bin, x_neg, x_not, x_and, x_or, x_cmp, x_cmp2, x_ite, x_nil, x_cons, x_tup, x_lst, x_ix, x_sl, x_call, x_bf, x_isi, x_rng, x_zip, x_zip3, x_enu, x_rng2, x_comp, x_dget, x_index, x_indexc, x_tell, s_skip, s_seq, s_ex, s_ret, s_asg, s_par, s_ite, s_for, thenS_next, thenS_ret, fin_ret, fin_next, ob_some, obl_bl, bnd_if, lft_if, unl, bnd_ok, bnd_no, lft_some, lft_none, truth, cmpop, D_non, D_bl, D_int, D_str, D_tup, D_lst, P_non, P_bl, P_int, P_str, P_tup, P_lst, P_nil, P_cons, eqM_d, isIn_t, isIn_l, vw_t, vw_l, vw_s, vw_i, vw_b, eqv_ss, eqv_ii, item_t, atI, q, r1, lcards, mkl, rowAt]
    by_cases h : sw ∈ ws <;> simp [h]
  | ite t s u ihs ihu =>
    intro ok hN x okx n m
    obtain ⟨a, b, c, q⟩ := x
    have ha := lay_lt (a := row / 16 % 4) okx.a
    have hb := lay_lt (a := row / 4 % 4) okx.b
    have hc := lay_lt (a := row % 4) okx.c
    simp only [Pol.dp] at hN
    have m1 := NC_mono (show s.dp ≤ max s.dp u.dp by omega)
    have m2 := NC_mono (show u.dp ≤ max s.dp u.dp by omega)
    simp only [NC] at hN
    generalize hM : max t.ht (max s.ht u.ht) = M
    have r1 := fun m => ihs ok.2.1 (by omega) (a, b, c, q) okx (n + (M - s.ht)) m
    have r2 := fun m => ihu ok.2.2 (by omega) (a, b, c, q) okx (n + (M - u.ht)) m
    have r3 := fun m => own_says L (a := lay (row / 16 % 4) a) (b := lay (row / 4 % 4) b) (c := lay (row % 4) c) (p := row / 64) t ok.1 (n + 3 + (M - t.ht)) m
    rw [show n + (M - s.ht) + s.ht + 3 = n + M + 3 by omega] at r1
    rw [show n + (M - u.ht) + u.ht + 3 = n + M + 3 by omega] at r2
    rw [show n + 3 + (M - t.ht) + t.ht = n + M + 3 by omega] at r3
    have r4 : ∀ m, run pr (n + M + 3) L.law_header [.int row] m = _ := fun m => ownheader_ L (n := n + M + 2)
    simp only [Pol.ht, Pol.enc, hM]
    rw [show n + (M + 1) + 3 = (n + M + 3) + 1 by omega, L.r_law_cards, go_B]
    refine rb_asg (.str [105, 102]) (m' := m) (by simp [x_k, x_loc, x_glo, x_bin, x_neg, x_not, x_and, x_or, x_cmp, x_cmp2, x_ite, x_nil, x_cons, x_tup, x_lst, x_ix, x_sl, x_call, x_bf, x_isi, x_rng, x_zip, x_zip3, x_enu, x_rng2, x_comp, x_dget, x_index, x_indexc, x_tell, s_skip, s_seq, s_ex, s_ret, s_asg, s_par, s_ite, s_for, thenS_next, thenS_ret, fin_ret, fin_next, ob_some, obl_bl, bnd_if, lft_if, unl, bnd_ok, bnd_no, lft_some, lft_none, vw_t, vw_l, vw_s, vw_i, vw_b, eqv_ss, eqv_ii, item_t, atI]) rfl ?_
    refine rb_no (by simp [x_k, x_loc, x_glo, x_bin, x_neg, x_not, x_and, x_or, x_cmp, x_cmp2, x_ite, x_nil, x_cons, x_tup, x_lst, x_ix, x_sl, x_call, x_bf, x_isi, x_rng, x_zip, x_zip3, x_enu, x_rng2, x_comp, x_dget, x_index, x_indexc, x_tell, s_skip, s_seq, s_ex, s_ret, s_asg, s_par, s_ite, s_for, thenS_next, thenS_ret, fin_ret, fin_next, ob_some, obl_bl, bnd_if, lft_if, unl, bnd_ok, bnd_no, lft_some, lft_none, truth, cmpop, D_non, D_bl, D_int, D_str, D_tup, D_lst, P_non, P_bl, P_int, P_str, P_tup, P_lst, P_nil, P_cons, eqM_d, isIn_t, isIn_l, vw_t, vw_l, vw_s, vw_i, vw_b, eqv_ss, eqv_ii, item_t, atI, mkl, anyEq, maxD]) rfl ?_
    refine rb_no (by simp [x_k, x_loc, x_glo, x_bin, x_neg, x_not, x_and, x_or, x_cmp, x_cmp2, x_ite, x_nil, x_cons, x_tup, x_lst, x_ix, x_sl, x_call, x_bf, x_isi, x_rng, x_zip, x_zip3, x_enu, x_rng2, x_comp, x_dget, x_index, x_indexc, x_tell, s_skip, s_seq, s_ex, s_ret, s_asg, s_par, s_ite, s_for, thenS_next, thenS_ret, fin_ret, fin_next, ob_some, obl_bl, bnd_if, lft_if, unl, bnd_ok, bnd_no, lft_some, lft_none, truth, cmpop, D_non, D_bl, D_int, D_str, D_tup, D_lst, P_non, P_bl, P_int, P_str, P_tup, P_lst, P_nil, P_cons, eqM_d, isIn_t, isIn_l, vw_t, vw_l, vw_s, vw_i, vw_b, eqv_ss, eqv_ii, item_t, atI, mkl, anyEq, maxD]) rfl ?_
    refine rb_no (by simp [x_k, x_loc, x_glo, x_bin, x_neg, x_not, x_and, x_or, x_cmp, x_cmp2, x_ite, x_nil, x_cons, x_tup, x_lst, x_ix, x_sl, x_call, x_bf, x_isi, x_rng, x_zip, x_zip3, x_enu, x_rng2, x_comp, x_dget, x_index, x_indexc, x_tell, s_skip, s_seq, s_ex, s_ret, s_asg, s_par, s_ite, s_for, thenS_next, thenS_ret, fin_ret, fin_next, ob_some, obl_bl, bnd_if, lft_if, unl, bnd_ok, bnd_no, lft_some, lft_none, truth, cmpop, D_non, D_bl, D_int, D_str, D_tup, D_lst, P_non, P_bl, P_int, P_str, P_tup, P_lst, P_nil, P_cons, eqM_d, isIn_t, isIn_l, vw_t, vw_l, vw_s, vw_i, vw_b, eqv_ss, eqv_ii, item_t, atI, mkl, anyEq, maxD]) rfl ?_
    refine rb_no (by simp [x_k, x_loc, x_glo, x_bin, x_neg, x_not, x_and, x_or, x_cmp, x_cmp2, x_ite, x_nil, x_cons, x_tup, x_lst, x_ix, x_sl, x_call, x_bf, x_isi, x_rng, x_zip, x_zip3, x_enu, x_rng2, x_comp, x_dget, x_index, x_indexc, x_tell, s_skip, s_seq, s_ex, s_ret, s_asg, s_par, s_ite, s_for, thenS_next, thenS_ret, fin_ret, fin_next, ob_some, obl_bl, bnd_if, lft_if, unl, bnd_ok, bnd_no, lft_some, lft_none, truth, cmpop, D_non, D_bl, D_int, D_str, D_tup, D_lst, P_non, P_bl, P_int, P_str, P_tup, P_lst, P_nil, P_cons, eqM_d, isIn_t, isIn_l, vw_t, vw_l, vw_s, vw_i, vw_b, eqv_ss, eqv_ii, item_t, atI, mkl, anyEq, maxD]) rfl ?_
    refine rb_yes (by simp [x_k, x_loc, x_glo, x_bin, x_neg, x_not, x_and, x_or, x_cmp, x_cmp2, x_ite, x_nil, x_cons, x_tup, x_lst, x_ix, x_sl, x_call, x_bf, x_isi, x_rng, x_zip, x_zip3, x_enu, x_rng2, x_comp, x_dget, x_index, x_indexc, x_tell, s_skip, s_seq, s_ex, s_ret, s_asg, s_par, s_ite, s_for, thenS_next, thenS_ret, fin_ret, fin_next, ob_some, obl_bl, bnd_if, lft_if, unl, bnd_ok, bnd_no, lft_some, lft_none, truth, cmpop, D_non, D_bl, D_int, D_str, D_tup, D_lst, P_non, P_bl, P_int, P_str, P_tup, P_lst, P_nil, P_cons, eqM_d, isIn_t, isIn_l, vw_t, vw_l, vw_s, vw_i, vw_b, eqv_ss, eqv_ii, item_t, atI, mkl, anyEq, maxD]) ?_
    refine rb_seq ?_
    refine rb_asg (hdr (lay (row / 16 % 4) a) (lay (row / 4 % 4) b) (lay (row % 4) c)) (m' := m) ?_ rfl ?_
    · rw [← ha, ← hb, ← hc]
      simp only [encC]
      simp [x_k, x_loc, x_glo, x_bin, x_neg, x_not, x_and, x_or, x_cmp, x_cmp2, x_ite, x_nil, x_cons, x_tup, x_lst, x_ix, x_sl, x_call, x_bf, x_isi, x_rng, x_zip, x_zip3, x_enu, x_rng2, x_comp, x_dget, x_index, x_indexc, x_tell, s_skip, s_seq, s_ex, s_ret, s_asg, s_par, s_ite, s_for, thenS_next, thenS_ret, fin_ret, fin_next, ob_some, obl_bl, bnd_if, lft_if, unl, bnd_ok, bnd_no, lft_some, lft_none, r4, zipL, compL, cmpB, compT, asg, wipeP, tstB, truth, mkl, callB, vw_t, vw_l, vw_s, vw_i, vw_b, eqv_ss, eqv_ii, item_t, atI, D_non, D_bl, D_int, D_str, D_tup, D_lst, P_non, P_bl, P_int, P_str, P_tup, P_lst, P_nil, P_cons, eqM_d, isIn_t, isIn_l, noexc, cmpop, PV.lt]
      by_cases h1 : a < 0 <;> by_cases h2 : b < 0 <;> by_cases h3 : c < 0 <;> simp [h1, h2, h3, x_k, x_loc, x_glo, x_bin, x_neg, x_not, x_and, x_or, x_cmp, x_cmp2, x_ite, x_nil, x_cons, x_tup, x_lst, x_ix, x_sl, x_call, x_bf, x_isi, x_rng, x_zip, x_zip3, x_enu, x_rng2, x_comp, x_dget, x_index, x_indexc, x_tell, s_skip, s_seq, s_ex, s_ret, s_asg, s_par, s_ite, s_for, thenS_next, thenS_ret, fin_ret, fin_next, ob_some, obl_bl, bnd_if, lft_if, unl, bnd_ok, bnd_no, lft_some, lft_none, D_non, D_bl, D_int, D_str, D_tup, D_lst, P_non, P_bl, P_int, P_str, P_tup, P_lst, P_nil, P_cons, eqM_d, isIn_t, isIn_l, vw_t, vw_l, vw_s, vw_i, vw_b, eqv_ss, eqv_ii, item_t, atI]
    · refine rb_ret ?_
      have hp : passAt (rowAt sw row) t (a, b, c, q) = t.says (lay (row / 16 % 4) a) (lay (row / 4 % 4) b) (lay (row % 4) c) (row / 64) := rfl
      by_cases h : t.says (lay (row / 16 % 4) a) (lay (row / 4 % 4) b) (lay (row % 4) c) (row / 64) = true <;> simp [x_k, x_loc, x_glo, x_bin, x_neg, x_not, x_and, x_or, x_cmp, x_cmp2, x_ite, x_nil, x_cons, x_tup, x_lst, x_ix, x_sl, x_call, x_bf, x_isi, x_rng, x_zip, x_zip3, x_enu, x_rng2, x_comp, x_dget, x_index, x_indexc, x_tell, s_skip, s_seq, s_ex, s_ret, s_asg, s_par, s_ite, s_for, thenS_next, thenS_ret, fin_ret, fin_next, ob_some, obl_bl, bnd_if, lft_if, unl, bnd_ok, bnd_no, lft_some, lft_none, r3, h, r1, r2, lcards, hp, binop, arith, vw_t, vw_l, vw_s, vw_i, vw_b, eqv_ss, eqv_ii, item_t, atI, D_non, D_bl, D_int, D_str, D_tup, D_lst, P_non, P_bl, P_int, P_str, P_tup, P_lst, P_nil, P_cons, eqM_d, isIn_t, isIn_l, truth]
  | both s t ihs iht =>
    intro ok hN x okx n m
    simp only [Pol.dp] at hN
    have m1 := NC_mono (show s.dp ≤ max s.dp t.dp by omega)
    have m2 := NC_mono (show t.dp ≤ max s.dp t.dp by omega)
    have p1 := NC_pos (max s.dp t.dp)
    simp only [NC] at hN
    have r1 := fun m => ihs ok.1 (by omega) x okx (n + (max s.ht t.ht - s.ht)) m
    have r2 := fun m => iht ok.2 (by omega) x okx (n + (max s.ht t.ht - t.ht)) m
    rw [show n + (max s.ht t.ht - s.ht) + s.ht + 3 = n + max s.ht t.ht + 3 by omega] at r1
    rw [show n + (max s.ht t.ht - t.ht) + t.ht + 3 = n + max s.ht t.ht + 3 by omega] at r2
    have l1 := l_len (rowAt sw row) s x
    have l2 := l_len (rowAt sw row) t x
    simp only [Pol.ht, Pol.enc]
    rw [show n + (max s.ht t.ht + 1) + 3 = (n + max s.ht t.ht + 3) + 1 by omega, L.r_law_cards, go_B]
    refine rb_asg (.str [98, 111, 116, 104]) (m' := m) (by simp [x_k, x_loc, x_glo, x_bin, x_neg, x_not, x_and, x_or, x_cmp, x_cmp2, x_ite, x_nil, x_cons, x_tup, x_lst, x_ix, x_sl, x_call, x_bf, x_isi, x_rng, x_zip, x_zip3, x_enu, x_rng2, x_comp, x_dget, x_index, x_indexc, x_tell, s_skip, s_seq, s_ex, s_ret, s_asg, s_par, s_ite, s_for, thenS_next, thenS_ret, fin_ret, fin_next, ob_some, obl_bl, bnd_if, lft_if, unl, bnd_ok, bnd_no, lft_some, lft_none, vw_t, vw_l, vw_s, vw_i, vw_b, eqv_ss, eqv_ii, item_t, atI]) rfl ?_
    refine rb_no (by simp [x_k, x_loc, x_glo, x_bin, x_neg, x_not, x_and, x_or, x_cmp, x_cmp2, x_ite, x_nil, x_cons, x_tup, x_lst, x_ix, x_sl, x_call, x_bf, x_isi, x_rng, x_zip, x_zip3, x_enu, x_rng2, x_comp, x_dget, x_index, x_indexc, x_tell, s_skip, s_seq, s_ex, s_ret, s_asg, s_par, s_ite, s_for, thenS_next, thenS_ret, fin_ret, fin_next, ob_some, obl_bl, bnd_if, lft_if, unl, bnd_ok, bnd_no, lft_some, lft_none, truth, cmpop, D_non, D_bl, D_int, D_str, D_tup, D_lst, P_non, P_bl, P_int, P_str, P_tup, P_lst, P_nil, P_cons, eqM_d, isIn_t, isIn_l, vw_t, vw_l, vw_s, vw_i, vw_b, eqv_ss, eqv_ii, item_t, atI, mkl, anyEq, maxD]) rfl ?_
    refine rb_no (by simp [x_k, x_loc, x_glo, x_bin, x_neg, x_not, x_and, x_or, x_cmp, x_cmp2, x_ite, x_nil, x_cons, x_tup, x_lst, x_ix, x_sl, x_call, x_bf, x_isi, x_rng, x_zip, x_zip3, x_enu, x_rng2, x_comp, x_dget, x_index, x_indexc, x_tell, s_skip, s_seq, s_ex, s_ret, s_asg, s_par, s_ite, s_for, thenS_next, thenS_ret, fin_ret, fin_next, ob_some, obl_bl, bnd_if, lft_if, unl, bnd_ok, bnd_no, lft_some, lft_none, truth, cmpop, D_non, D_bl, D_int, D_str, D_tup, D_lst, P_non, P_bl, P_int, P_str, P_tup, P_lst, P_nil, P_cons, eqM_d, isIn_t, isIn_l, vw_t, vw_l, vw_s, vw_i, vw_b, eqv_ss, eqv_ii, item_t, atI, mkl, anyEq, maxD]) rfl ?_
    refine rb_no (by simp [x_k, x_loc, x_glo, x_bin, x_neg, x_not, x_and, x_or, x_cmp, x_cmp2, x_ite, x_nil, x_cons, x_tup, x_lst, x_ix, x_sl, x_call, x_bf, x_isi, x_rng, x_zip, x_zip3, x_enu, x_rng2, x_comp, x_dget, x_index, x_indexc, x_tell, s_skip, s_seq, s_ex, s_ret, s_asg, s_par, s_ite, s_for, thenS_next, thenS_ret, fin_ret, fin_next, ob_some, obl_bl, bnd_if, lft_if, unl, bnd_ok, bnd_no, lft_some, lft_none, truth, cmpop, D_non, D_bl, D_int, D_str, D_tup, D_lst, P_non, P_bl, P_int, P_str, P_tup, P_lst, P_nil, P_cons, eqM_d, isIn_t, isIn_l, vw_t, vw_l, vw_s, vw_i, vw_b, eqv_ss, eqv_ii, item_t, atI, mkl, anyEq, maxD]) rfl ?_
    refine rb_no (by simp [x_k, x_loc, x_glo, x_bin, x_neg, x_not, x_and, x_or, x_cmp, x_cmp2, x_ite, x_nil, x_cons, x_tup, x_lst, x_ix, x_sl, x_call, x_bf, x_isi, x_rng, x_zip, x_zip3, x_enu, x_rng2, x_comp, x_dget, x_index, x_indexc, x_tell, s_skip, s_seq, s_ex, s_ret, s_asg, s_par, s_ite, s_for, thenS_next, thenS_ret, fin_ret, fin_next, ob_some, obl_bl, bnd_if, lft_if, unl, bnd_ok, bnd_no, lft_some, lft_none, truth, cmpop, D_non, D_bl, D_int, D_str, D_tup, D_lst, P_non, P_bl, P_int, P_str, P_tup, P_lst, P_nil, P_cons, eqM_d, isIn_t, isIn_l, vw_t, vw_l, vw_s, vw_i, vw_b, eqv_ss, eqv_ii, item_t, atI, mkl, anyEq, maxD]) rfl ?_
    refine rb_no (by simp [x_k, x_loc, x_glo, x_bin, x_neg, x_not, x_and, x_or, x_cmp, x_cmp2, x_ite, x_nil, x_cons, x_tup, x_lst, x_ix, x_sl, x_call, x_bf, x_isi, x_rng, x_zip, x_zip3, x_enu, x_rng2, x_comp, x_dget, x_index, x_indexc, x_tell, s_skip, s_seq, s_ex, s_ret, s_asg, s_par, s_ite, s_for, thenS_next, thenS_ret, fin_ret, fin_next, ob_some, obl_bl, bnd_if, lft_if, unl, bnd_ok, bnd_no, lft_some, lft_none, truth, cmpop, D_non, D_bl, D_int, D_str, D_tup, D_lst, P_non, P_bl, P_int, P_str, P_tup, P_lst, P_nil, P_cons, eqM_d, isIn_t, isIn_l, vw_t, vw_l, vw_s, vw_i, vw_b, eqv_ss, eqv_ii, item_t, atI, mkl, anyEq, maxD]) rfl ?_
    refine rb_asg (encL []) (m' := m) (by simp [x_k, x_loc, x_glo, x_bin, x_neg, x_not, x_and, x_or, x_cmp, x_cmp2, x_ite, x_nil, x_cons, x_tup, x_lst, x_ix, x_sl, x_call, x_bf, x_isi, x_rng, x_zip, x_zip3, x_enu, x_rng2, x_comp, x_dget, x_index, x_indexc, x_tell, s_skip, s_seq, s_ex, s_ret, s_asg, s_par, s_ite, s_for, thenS_next, thenS_ret, fin_ret, fin_next, ob_some, obl_bl, bnd_if, lft_if, unl, bnd_ok, bnd_no, lft_some, lft_none, mkl]) rfl ?_
    refine rb_yes (by simp [x_k, x_loc, x_glo, x_bin, x_neg, x_not, x_and, x_or, x_cmp, x_cmp2, x_ite, x_nil, x_cons, x_tup, x_lst, x_ix, x_sl, x_call, x_bf, x_isi, x_rng, x_zip, x_zip3, x_enu, x_rng2, x_comp, x_dget, x_index, x_indexc, x_tell, s_skip, s_seq, s_ex, s_ret, s_asg, s_par, s_ite, s_for, thenS_next, thenS_ret, fin_ret, fin_next, ob_some, obl_bl, bnd_if, lft_if, unl, bnd_ok, bnd_no, lft_some, lft_none, truth, cmpop, D_non, D_bl, D_int, D_str, D_tup, D_lst, P_non, P_bl, P_int, P_str, P_tup, P_lst, P_nil, P_cons, eqM_d, isIn_t, isIn_l, vw_t, vw_l, vw_s, vw_i, vw_b, eqv_ss, eqv_ii, item_t, atI]) ?_
    refine rb_n (m' := m) (ρ' := [some (.tup [.str [98, 111, 116, 104], s.enc, t.enc]), some (.int sw), some (.int row), some (encC x), some (.str [98, 111, 116, 104]), none, none, some (encL (lcards (rowAt sw row) s x ++ lcards (rowAt sw row) t x)), some t.enc, none, none]) ?_ ?_
    · have b1 : binop false .add (encL []) (encL (lcards (rowAt sw row) s x)) m = .ok (encL (lcards (rowAt sw row) s x)) m := binL (a := []) (by simp only [List.length_nil]; omega)
      have b2 := binL (m := m) (a := lcards (rowAt sw row) s x) (b := lcards (rowAt sw row) t x) (by omega)
      simp [x_k, x_loc, x_glo, x_bin, x_neg, x_not, x_and, x_or, x_cmp, x_cmp2, x_ite, x_nil, x_cons, x_tup, x_lst, x_ix, x_sl, x_call, x_bf, x_isi, x_rng, x_zip, x_zip3, x_enu, x_rng2, x_comp, x_dget, x_index, x_indexc, x_tell, s_skip, s_seq, s_ex, s_ret, s_asg, s_par, s_ite, s_for, thenS_next, thenS_ret, fin_ret, fin_next, ob_some, obl_bl, bnd_if, lft_if, unl, bnd_ok, bnd_no, lft_some, lft_none, slice, optI, small, cut, bound, forL, forB, asg, vw_t, vw_l, vw_s, vw_i, vw_b, eqv_ss, eqv_ii, item_t, atI, D_non, D_bl, D_int, D_str, D_tup, D_lst, P_non, P_bl, P_int, P_str, P_tup, P_lst, P_nil, P_cons, eqM_d, isIn_t, isIn_l, r1, r2, b1, b2]
    · refine rb_last ?_
      simp only [x_k, x_loc, x_glo, x_bin, x_neg, x_not, x_and, x_or, x_cmp, x_cmp2, x_ite, x_nil, x_cons, x_tup, x_lst, x_ix, x_sl, x_call, x_bf, x_isi, x_rng, x_zip, x_zip3, x_enu, x_rng2, x_comp, x_dget, x_index, x_indexc, x_tell, s_skip, s_seq, s_ex, s_ret, s_asg, s_par, s_ite, s_for, thenS_next, thenS_ret, fin_ret, fin_next, ob_some, obl_bl, bnd_if, lft_if, unl, bnd_ok, bnd_no, lft_some, lft_none, List.getElem?_cons_succ, List.getElem?_cons_zero, Option.join_some]
      simp only [lcards]
      exact sortset_cards (by rw [List.length_append]; omega)
  | thn s t ihs iht =>
    intro ok hN x okx n m
    simp only [Pol.dp] at hN
    have m1 := NC_mono (show s.dp ≤ max s.dp t.dp by omega)
    have m2 := NC_mono (show t.dp ≤ max s.dp t.dp by omega)
    have p1 := NC_pos (max s.dp t.dp)
    simp only [NC] at hN
    have r1 := fun m => ihs ok.1 (by omega) x okx (n + (max s.ht t.ht - s.ht)) m
    have r2 := fun y oky m => iht ok.2 (by omega) y oky (n + (max s.ht t.ht - t.ht)) m
    rw [show n + (max s.ht t.ht - s.ht) + s.ht + 3 = n + max s.ht t.ht + 3 by omega] at r1
    rw [show n + (max s.ht t.ht - t.ht) + t.ht + 3 = n + max s.ht t.ht + 3 by omega] at r2
    have okl := l_ok (rowAt sw row) s ok.1 x okx
    have hlen : ((lcards (rowAt sw row) s x).flatMap (lcards (rowAt sw row) t)).length ≤ 63 := by
      have h2 := flat_len (f := lcards (rowAt sw row) t) (k := NC (max s.dp t.dp)) (l := lcards (rowAt sw row) s x) fun y _ => Nat.le_trans (l_len (rowAt sw row) t y) m2
      have h3 := Nat.mul_le_mul_right (NC (max s.dp t.dp)) (Nat.le_trans (l_len (rowAt sw row) s x) m1)
      omega
    simp only [Pol.ht, Pol.enc]
    rw [show n + (max s.ht t.ht + 1) + 3 = (n + max s.ht t.ht + 3) + 1 by omega, L.r_law_cards, go_B]
    refine rb_asg (.str [116, 104, 101, 110]) (m' := m) (by simp [x_k, x_loc, x_glo, x_bin, x_neg, x_not, x_and, x_or, x_cmp, x_cmp2, x_ite, x_nil, x_cons, x_tup, x_lst, x_ix, x_sl, x_call, x_bf, x_isi, x_rng, x_zip, x_zip3, x_enu, x_rng2, x_comp, x_dget, x_index, x_indexc, x_tell, s_skip, s_seq, s_ex, s_ret, s_asg, s_par, s_ite, s_for, thenS_next, thenS_ret, fin_ret, fin_next, ob_some, obl_bl, bnd_if, lft_if, unl, bnd_ok, bnd_no, lft_some, lft_none, vw_t, vw_l, vw_s, vw_i, vw_b, eqv_ss, eqv_ii, item_t, atI]) rfl ?_
    refine rb_no (by simp [x_k, x_loc, x_glo, x_bin, x_neg, x_not, x_and, x_or, x_cmp, x_cmp2, x_ite, x_nil, x_cons, x_tup, x_lst, x_ix, x_sl, x_call, x_bf, x_isi, x_rng, x_zip, x_zip3, x_enu, x_rng2, x_comp, x_dget, x_index, x_indexc, x_tell, s_skip, s_seq, s_ex, s_ret, s_asg, s_par, s_ite, s_for, thenS_next, thenS_ret, fin_ret, fin_next, ob_some, obl_bl, bnd_if, lft_if, unl, bnd_ok, bnd_no, lft_some, lft_none, truth, cmpop, D_non, D_bl, D_int, D_str, D_tup, D_lst, P_non, P_bl, P_int, P_str, P_tup, P_lst, P_nil, P_cons, eqM_d, isIn_t, isIn_l, vw_t, vw_l, vw_s, vw_i, vw_b, eqv_ss, eqv_ii, item_t, atI, mkl, anyEq, maxD]) rfl ?_
    refine rb_no (by simp [x_k, x_loc, x_glo, x_bin, x_neg, x_not, x_and, x_or, x_cmp, x_cmp2, x_ite, x_nil, x_cons, x_tup, x_lst, x_ix, x_sl, x_call, x_bf, x_isi, x_rng, x_zip, x_zip3, x_enu, x_rng2, x_comp, x_dget, x_index, x_indexc, x_tell, s_skip, s_seq, s_ex, s_ret, s_asg, s_par, s_ite, s_for, thenS_next, thenS_ret, fin_ret, fin_next, ob_some, obl_bl, bnd_if, lft_if, unl, bnd_ok, bnd_no, lft_some, lft_none, truth, cmpop, D_non, D_bl, D_int, D_str, D_tup, D_lst, P_non, P_bl, P_int, P_str, P_tup, P_lst, P_nil, P_cons, eqM_d, isIn_t, isIn_l, vw_t, vw_l, vw_s, vw_i, vw_b, eqv_ss, eqv_ii, item_t, atI, mkl, anyEq, maxD]) rfl ?_
    refine rb_no (by simp [x_k, x_loc, x_glo, x_bin, x_neg, x_not, x_and, x_or, x_cmp, x_cmp2, x_ite, x_nil, x_cons, x_tup, x_lst, x_ix, x_sl, x_call, x_bf, x_isi, x_rng, x_zip, x_zip3, x_enu, x_rng2, x_comp, x_dget, x_index, x_indexc, x_tell, s_skip, s_seq, s_ex, s_ret, s_asg, s_par, s_ite, s_for, thenS_next, thenS_ret, fin_ret, fin_next, ob_some, obl_bl, bnd_if, lft_if, unl, bnd_ok, bnd_no, lft_some, lft_none, truth, cmpop, D_non, D_bl, D_int, D_str, D_tup, D_lst, P_non, P_bl, P_int, P_str, P_tup, P_lst, P_nil, P_cons, eqM_d, isIn_t, isIn_l, vw_t, vw_l, vw_s, vw_i, vw_b, eqv_ss, eqv_ii, item_t, atI, mkl, anyEq, maxD]) rfl ?_
    refine rb_no (by simp [x_k, x_loc, x_glo, x_bin, x_neg, x_not, x_and, x_or, x_cmp, x_cmp2, x_ite, x_nil, x_cons, x_tup, x_lst, x_ix, x_sl, x_call, x_bf, x_isi, x_rng, x_zip, x_zip3, x_enu, x_rng2, x_comp, x_dget, x_index, x_indexc, x_tell, s_skip, s_seq, s_ex, s_ret, s_asg, s_par, s_ite, s_for, thenS_next, thenS_ret, fin_ret, fin_next, ob_some, obl_bl, bnd_if, lft_if, unl, bnd_ok, bnd_no, lft_some, lft_none, truth, cmpop, D_non, D_bl, D_int, D_str, D_tup, D_lst, P_non, P_bl, P_int, P_str, P_tup, P_lst, P_nil, P_cons, eqM_d, isIn_t, isIn_l, vw_t, vw_l, vw_s, vw_i, vw_b, eqv_ss, eqv_ii, item_t, atI, mkl, anyEq, maxD]) rfl ?_
    refine rb_no (by simp [x_k, x_loc, x_glo, x_bin, x_neg, x_not, x_and, x_or, x_cmp, x_cmp2, x_ite, x_nil, x_cons, x_tup, x_lst, x_ix, x_sl, x_call, x_bf, x_isi, x_rng, x_zip, x_zip3, x_enu, x_rng2, x_comp, x_dget, x_index, x_indexc, x_tell, s_skip, s_seq, s_ex, s_ret, s_asg, s_par, s_ite, s_for, thenS_next, thenS_ret, fin_ret, fin_next, ob_some, obl_bl, bnd_if, lft_if, unl, bnd_ok, bnd_no, lft_some, lft_none, truth, cmpop, D_non, D_bl, D_int, D_str, D_tup, D_lst, P_non, P_bl, P_int, P_str, P_tup, P_lst, P_nil, P_cons, eqM_d, isIn_t, isIn_l, vw_t, vw_l, vw_s, vw_i, vw_b, eqv_ss, eqv_ii, item_t, atI, mkl, anyEq, maxD]) rfl ?_
    refine rb_asg (encL []) (m' := m) (by simp [x_k, x_loc, x_glo, x_bin, x_neg, x_not, x_and, x_or, x_cmp, x_cmp2, x_ite, x_nil, x_cons, x_tup, x_lst, x_ix, x_sl, x_call, x_bf, x_isi, x_rng, x_zip, x_zip3, x_enu, x_rng2, x_comp, x_dget, x_index, x_indexc, x_tell, s_skip, s_seq, s_ex, s_ret, s_asg, s_par, s_ite, s_for, thenS_next, thenS_ret, fin_ret, fin_next, ob_some, obl_bl, bnd_if, lft_if, unl, bnd_ok, bnd_no, lft_some, lft_none, mkl]) rfl ?_
    obtain ⟨o', e⟩ := forL_inv (m := m) (f := forB pr.con (run pr (n + max s.ht t.ht + 3)) (.v 9) (.asg (.v 7) (.bin false .add (.loc 7) (.call L.law_cards (.cons (.ix (.loc 0) (.k (.int 2))) (.cons (.loc 1) (.cons (.loc 2) (.cons (.loc 9) (.nil))))))))) encC (fun b y => b ++ lcards (rowAt sw row) t y) (fun b o => [some (.tup [.str [116, 104, 101, 110], s.enc, t.enc]), some (.int sw), some (.int row), some (encC x), some (.str [116, 104, 101, 110]), none, none, some (encL b), none, o, none]) (fun l b => b.length + (l.map fun y => (lcards (rowAt sw row) t y).length).sum ≤ 63 ∧ ∀ y ∈ l, OkC y) (fun b o y l hq => by
      obtain ⟨h1, h2⟩ := hq
      rw [List.map_cons, List.sum_cons] at h1
      have b1 := binL (m := m) (a := b) (b := lcards (rowAt sw row) t y) (by omega)
      refine ⟨?_, ?_, fun z hz => h2 z (by simp [hz])⟩
      · simp [forB_eq, asg, x_k, x_loc, x_glo, x_bin, x_neg, x_not, x_and, x_or, x_cmp, x_cmp2, x_ite, x_nil, x_cons, x_tup, x_lst, x_ix, x_sl, x_call, x_bf, x_isi, x_rng, x_zip, x_zip3, x_enu, x_rng2, x_comp, x_dget, x_index, x_indexc, x_tell, s_skip, s_seq, s_ex, s_ret, s_asg, s_par, s_ite, s_for, thenS_next, thenS_ret, fin_ret, fin_next, ob_some, obl_bl, bnd_if, lft_if, unl, bnd_ok, bnd_no, lft_some, lft_none, vw_t, vw_l, vw_s, vw_i, vw_b, eqv_ss, eqv_ii, item_t, atI, r2 y (h2 y (by simp)), b1]
      · rw [List.length_append]; omega) (lcards (rowAt sw row) s x) [] none ⟨by rw [← flat_sum]; simpa using hlen, okl⟩
    rw [foldl_flat, List.nil_append] at e
    refine rb_n (m' := m) (ρ' := [some (.tup [.str [116, 104, 101, 110], s.enc, t.enc]), some (.int sw), some (.int row), some (encC x), some (.str [116, 104, 101, 110]), none, none, some (encL ((lcards (rowAt sw row) s x).flatMap (lcards (rowAt sw row) t))), none, o', none]) ?_ ?_
    · rw [s_ite, show evE pr.con (run pr (n + max s.ht t.ht + 3)) (.cmp .eq (.loc 4) (.k (.str [98, 111, 116, 104]))) _ m = .ok (.bl false) m by simp [x_k, x_loc, x_glo, x_bin, x_neg, x_not, x_and, x_or, x_cmp, x_cmp2, x_ite, x_nil, x_cons, x_tup, x_lst, x_ix, x_sl, x_call, x_bf, x_isi, x_rng, x_zip, x_zip3, x_enu, x_rng2, x_comp, x_dget, x_index, x_indexc, x_tell, s_skip, s_seq, s_ex, s_ret, s_asg, s_par, s_ite, s_for, thenS_next, thenS_ret, fin_ret, fin_next, ob_some, obl_bl, bnd_if, lft_if, unl, bnd_ok, bnd_no, lft_some, lft_none, truth, cmpop, D_non, D_bl, D_int, D_str, D_tup, D_lst, P_non, P_bl, P_int, P_str, P_tup, P_lst, P_nil, P_cons, eqM_d, isIn_t, isIn_l, vw_t, vw_l, vw_s, vw_i, vw_b, eqv_ss, eqv_ii, item_t, atI], bnd_ok]
      show ob (some false) _ _ = _
      rw [ob_some, if_neg Bool.false_ne_true]
      rw [s_for, show evE pr.con (run pr (n + max s.ht t.ht + 3)) (.call L.law_cards (.cons (.ix (.loc 0) (.k (.int 1))) (.cons (.loc 1) (.cons (.loc 2) (.cons (.loc 3) (.nil)))))) _ m = .ok (encL (lcards (rowAt sw row) s x)) m by simp [x_k, x_loc, x_glo, x_bin, x_neg, x_not, x_and, x_or, x_cmp, x_cmp2, x_ite, x_nil, x_cons, x_tup, x_lst, x_ix, x_sl, x_call, x_bf, x_isi, x_rng, x_zip, x_zip3, x_enu, x_rng2, x_comp, x_dget, x_index, x_indexc, x_tell, s_skip, s_seq, s_ex, s_ret, s_asg, s_par, s_ite, s_for, thenS_next, thenS_ret, fin_ret, fin_next, ob_some, obl_bl, bnd_if, lft_if, unl, bnd_ok, bnd_no, lft_some, lft_none, vw_t, vw_l, vw_s, vw_i, vw_b, eqv_ss, eqv_ii, item_t, atI, r1], bnd_ok]
      exact e
    · refine rb_last ?_
      simp only [x_k, x_loc, x_glo, x_bin, x_neg, x_not, x_and, x_or, x_cmp, x_cmp2, x_ite, x_nil, x_cons, x_tup, x_lst, x_ix, x_sl, x_call, x_bf, x_isi, x_rng, x_zip, x_zip3, x_enu, x_rng2, x_comp, x_dget, x_index, x_indexc, x_tell, s_skip, s_seq, s_ex, s_ret, s_asg, s_par, s_ite, s_for, thenS_next, thenS_ret, fin_ret, fin_next, ob_some, obl_bl, bnd_if, lft_if, unl, bnd_ok, bnd_no, lft_some, lft_none, List.getElem?_cons_succ, List.getElem?_cons_zero, Option.join_some]
      simp only [lcards]
      exact sortset_cards (by omega)
end
end Pv
set_option maxHeartbeats 4000000
namespace Pv
/-! ## What a policy makes of a row -/
/-- the actions, in order -/
def actsV (p : Pol) (sw row : Int) : PV := .tup (isort ((actsOf (lcards (rowAt sw row) p (-1, -1, -1, -1))).map encA))
theorem acts_filter {l : List Card} {q : Card → Bool} (h : ∀ x ∈ l, q x = decide (x.2.2.2 ≠ -1)) : l.filterMap (fun x => if q x = true then some (encA x) else none) = (actsOf l).map encA := by
  induction l with
  | nil => rfl
  | cons x l ih =>
    have ih := ih fun y hy => h y (by simp [hy])
    have hx := h x (by simp)
    unfold actsOf at ih ⊢
    rw [List.filterMap_cons, List.filter_cons, hx]
    cases hd : decide (x.2.2.2 ≠ -1) <;> simp [ih]
theorem isort_D {l : List PV} (h : ∀ x ∈ l, x.isD = true) : ∀ x ∈ isort l, x.isD = true := fun x hx => h x ((isort_perm l).mem_iff.mp hx)
theorem encA_D (x : Card) : (encA x).isD = true := rfl
theorem mkl_D {l : List PV} {m : Mem} (h : ∀ x ∈ l, x.isD = true) : mkl false l m = .ok (.lst l) m := by
  unfold mkl
  rw [List.all_eq_true.mpr h]
  rfl
theorem sorted_acts {l : List Card} {m : Mem} (h : l.length ≤ 1000) : callB false .sorted [.lst ((actsOf l).map encA)] m = .ok (.lst (isort ((actsOf l).map encA))) m := by
  have q := acts_sortable (actsOf l)
  have d := acts_dep (actsOf l)
  have hl : (actsOf l).length ≤ l.length := List.length_filter_le _ _
  unfold callB
  simp only [vw_l, q, List.length_map, Bool.true_and, Bool.and_eq_true, decide_eq_true_eq]
  rw [if_pos ⟨by omega, by omega⟩]
  exact mkl_D (isort_D fun x hx => by obtain ⟨y, _, rfl⟩ := List.mem_map.mp hx; exact encA_D y)
theorem mk_acts {l : List Card} {m : Mem} : mkl false (l.map encA) m = .ok (.lst (l.map encA)) m := mkl_D fun x hx => by obtain ⟨y, _, rfl⟩ := List.mem_map.mp hx; exact encA_D y
section
variable {pr : Prg}
theorem lawactions_ (L : OwnLib pr) (p : Pol) (ok : p.ok) (hN : NC p.dp ≤ 63) (sw row : Int) (n : Nat) (m : Mem) : run pr (n + p.ht + 4) L.law_actions [p.enc, .int sw, .int row] m = .ok (actsV p sw row) m := by
  have r := lawcards_ L sw row p ok hN (-1, -1, -1, -1) ⟨by decide, by decide, by decide, by decide⟩ n m
  have okl := l_ok (rowAt sw row) p ok (-1, -1, -1, -1) ⟨by decide, by decide, by decide, by decide⟩
  have hlen := l_len (rowAt sw row) p (-1, -1, -1, -1)
  rw [show n + p.ht + 4 = (n + p.ht + 3) + 1 from rfl, L.r_law_actions, go_B]
  refine rb_asg (encL (lcards (rowAt sw row) p (-1, -1, -1, -1))) (m' := m) ?_ rfl ?_
  · simp only [encC] at r
    simp [x_k, x_loc, x_glo, x_bin, x_neg, x_not, x_and, x_or, x_cmp, x_cmp2, x_ite, x_nil, x_cons, x_tup, x_lst, x_ix, x_sl, x_call, x_bf, x_isi, x_rng, x_zip, x_zip3, x_enu, x_rng2, x_comp, x_dget, x_index, x_indexc, x_tell, s_skip, s_seq, s_ex, s_ret, s_asg, s_par, s_ite, s_for, thenS_next, thenS_ret, fin_ret, fin_next, ob_some, obl_bl, bnd_if, lft_if, unl, bnd_ok, bnd_no, lft_some, lft_none, D_non, D_bl, D_int, D_str, D_tup, D_lst, P_non, P_bl, P_int, P_str, P_tup, P_lst, P_nil, P_cons, eqM_d, isIn_t, isIn_l, r]
  · refine rb_last ?_
    rw [x_bf, x_cons, x_bf, x_cons, comp_c (l := (lcards (rowAt sw row) p (-1, -1, -1, -1)).map encC) (m' := m) (m2 := m) (vs := (actsOf (lcards (rowAt sw row) p (-1, -1, -1, -1))).map encA) (r := .ok (.lst ((actsOf (lcards (rowAt sw row) p (-1, -1, -1, -1))).map encA)) m) (by simp [x_k, x_loc, x_glo, x_bin, x_neg, x_not, x_and, x_or, x_cmp, x_cmp2, x_ite, x_nil, x_cons, x_tup, x_lst, x_ix, x_sl, x_call, x_bf, x_isi, x_rng, x_zip, x_zip3, x_enu, x_rng2, x_comp, x_dget, x_index, x_indexc, x_tell, s_skip, s_seq, s_ex, s_ret, s_asg, s_par, s_ite, s_for, thenS_next, thenS_ret, fin_ret, fin_next, ob_some, obl_bl, bnd_if, lft_if, unl, bnd_ok, bnd_no, lft_some, lft_none]) ?_ mk_acts]
    · rw [bnd_ok, x_nil, bnd_ok, bnd_ok]
      show bnd (bnd (callB false .sorted [.lst ((actsOf (lcards (rowAt sw row) p (-1, -1, -1, -1))).map encA)] m) _) _ = _
      rw [sorted_acts (by omega), bnd_ok, x_nil, bnd_ok, bnd_ok]
      rfl
    · rw [comp_fm encC (fun x => if decide (x.2.2.2 ≥ 0) = true then some (encA x) else none) (fun x hx => ?_), acts_filter (q := fun x => decide (x.2.2.2 ≥ 0)) fun x hx => ?_]
      · have := (okl x hx).p
        refine decide_eq_decide.mpr ?_
        omega
      · obtain ⟨a, b, c, q⟩ := x
        simp [encC, cmpB, asg, wipeP, compT, x_k, x_loc, x_glo, x_bin, x_neg, x_not, x_and, x_or, x_cmp, x_cmp2, x_ite, x_nil, x_cons, x_tup, x_lst, x_ix, x_sl, x_call, x_bf, x_isi, x_rng, x_zip, x_zip3, x_enu, x_rng2, x_comp, x_dget, x_index, x_indexc, x_tell, s_skip, s_seq, s_ex, s_ret, s_asg, s_par, s_ite, s_for, thenS_next, thenS_ret, fin_ret, fin_next, ob_some, obl_bl, bnd_if, lft_if, unl, bnd_ok, bnd_no, lft_some, lft_none, noexc, tstB, truth, cmpop, PV.lt, vw_t, vw_l, vw_s, vw_i, vw_b, eqv_ss, eqv_ii, item_t, atI, D_non, D_bl, D_int, D_str, D_tup, D_lst, P_non, P_bl, P_int, P_str, P_tup, P_lst, P_nil, P_cons, eqM_d, isIn_t, isIn_l, binop, big]
        by_cases h : 0 ≤ q <;> simp [h, encA, x_k, x_loc, x_glo, x_bin, x_neg, x_not, x_and, x_or, x_cmp, x_cmp2, x_ite, x_nil, x_cons, x_tup, x_lst, x_ix, x_sl, x_call, x_bf, x_isi, x_rng, x_zip, x_zip3, x_enu, x_rng2, x_comp, x_dget, x_index, x_indexc, x_tell, s_skip, s_seq, s_ex, s_ret, s_asg, s_par, s_ite, s_for, thenS_next, thenS_ret, fin_ret, fin_next, ob_some, obl_bl, bnd_if, lft_if, unl, bnd_ok, bnd_no, lft_some, lft_none]
theorem actions_in_ (L : MeanLib pr) (p : Pol) (ok : p.ok) (hN : NC p.dp ≤ 1000) (sw row : Int) (n : Nat) (m : Mem) : run pr (n + p.ht + 4) L.actions_in [p.enc, .int sw, .int row] m = .ok (actsV p sw row) m := by
  have r := cards_ L (rowAt sw row) p ok hN (-1, -1, -1, -1) n m
  have hlen := p_len (rowAt sw row) p (-1, -1, -1, -1)
  have rh : ∀ m, run pr (n + p.ht + 3) L.header_in [.int row] m = _ := fun m => header_ L.toRowLib (n := n + p.ht + 2)
  have rp : ∀ m, run pr (n + p.ht + 3) L.port_in [.int row] m = _ := fun m => port_ L.toRowLib (n := n + p.ht + 2)
  rw [show n + p.ht + 4 = (n + p.ht + 3) + 1 from rfl, L.r_actions_in, go_B]
  refine rb_asg (encL (pcards (rowAt sw row) p (-1, -1, -1, -1))) (m' := m) ?_ rfl ?_
  · simp only [encC, rowAt] at r
    simp [x_k, x_loc, x_glo, x_bin, x_neg, x_not, x_and, x_or, x_cmp, x_cmp2, x_ite, x_nil, x_cons, x_tup, x_lst, x_ix, x_sl, x_call, x_bf, x_isi, x_rng, x_zip, x_zip3, x_enu, x_rng2, x_comp, x_dget, x_index, x_indexc, x_tell, s_skip, s_seq, s_ex, s_ret, s_asg, s_par, s_ite, s_for, thenS_next, thenS_ret, fin_ret, fin_next, ob_some, obl_bl, bnd_if, lft_if, unl, bnd_ok, bnd_no, lft_some, lft_none, D_non, D_bl, D_int, D_str, D_tup, D_lst, P_non, P_bl, P_int, P_str, P_tup, P_lst, P_nil, P_cons, eqM_d, isIn_t, isIn_l, L.h_PLAIN, L.h_NOT, rh, rp, r, rowAt]
  · refine rb_last ?_
    rw [x_bf, x_cons, x_bf, x_cons, comp_c (l := (pcards (rowAt sw row) p (-1, -1, -1, -1)).map encC) (m' := m) (m2 := m) (vs := (actsOf (pcards (rowAt sw row) p (-1, -1, -1, -1))).map encA) (r := .ok (.lst ((actsOf (pcards (rowAt sw row) p (-1, -1, -1, -1))).map encA)) m) (by simp [x_k, x_loc, x_glo, x_bin, x_neg, x_not, x_and, x_or, x_cmp, x_cmp2, x_ite, x_nil, x_cons, x_tup, x_lst, x_ix, x_sl, x_call, x_bf, x_isi, x_rng, x_zip, x_zip3, x_enu, x_rng2, x_comp, x_dget, x_index, x_indexc, x_tell, s_skip, s_seq, s_ex, s_ret, s_asg, s_par, s_ite, s_for, thenS_next, thenS_ret, fin_ret, fin_next, ob_some, obl_bl, bnd_if, lft_if, unl, bnd_ok, bnd_no, lft_some, lft_none]) ?_ mk_acts]
    · rw [bnd_ok, x_nil, bnd_ok, bnd_ok]
      show bnd (bnd (callB false .sorted [.lst ((actsOf (pcards (rowAt sw row) p (-1, -1, -1, -1))).map encA)] m) _) _ = _
      rw [sorted_acts (by omega), bnd_ok, x_nil, bnd_ok, bnd_ok, acts_same]
      rfl
    · rw [comp_fm encC (fun x => if decide (x.2.2.2 ≠ -1) = true then some (encA x) else none) (fun x hx => ?_), acts_filter (q := fun x => decide (x.2.2.2 ≠ -1)) fun x hx => rfl]
      obtain ⟨a, b, c, q⟩ := x
      simp [encC, cmpB, asg, wipeP, compT, x_k, x_loc, x_glo, x_bin, x_neg, x_not, x_and, x_or, x_cmp, x_cmp2, x_ite, x_nil, x_cons, x_tup, x_lst, x_ix, x_sl, x_call, x_bf, x_isi, x_rng, x_zip, x_zip3, x_enu, x_rng2, x_comp, x_dget, x_index, x_indexc, x_tell, s_skip, s_seq, s_ex, s_ret, s_asg, s_par, s_ite, s_for, thenS_next, thenS_ret, fin_ret, fin_next, ob_some, obl_bl, bnd_if, lft_if, unl, bnd_ok, bnd_no, lft_some, lft_none, noexc, tstB, truth, cmpop, vw_t, vw_l, vw_s, vw_i, vw_b, eqv_ss, eqv_ii, item_t, atI, D_non, D_bl, D_int, D_str, D_tup, D_lst, P_non, P_bl, P_int, P_str, P_tup, P_lst, P_nil, P_cons, eqM_d, isIn_t, isIn_l, binop, big, L.h_NOT]
      by_cases h : q = -1 <;> simp [h, encA, x_k, x_loc, x_glo, x_bin, x_neg, x_not, x_and, x_or, x_cmp, x_cmp2, x_ite, x_nil, x_cons, x_tup, x_lst, x_ix, x_sl, x_call, x_bf, x_isi, x_rng, x_zip, x_zip3, x_enu, x_rng2, x_comp, x_dget, x_index, x_indexc, x_tell, s_skip, s_seq, s_ex, s_ret, s_asg, s_par, s_ite, s_for, thenS_next, thenS_ret, fin_ret, fin_next, ob_some, obl_bl, bnd_if, lft_if, unl, bnd_ok, bnd_no, lft_some, lft_none]
end
end Pv
set_option maxHeartbeats 4000000
namespace Pv
def S_passes (f_need_test f_need_number f_passes_in f_header_in f_port_in c_ROWS : Nat) : S := .seq (.ex (.call f_need_test (.cons (.loc 0) (.nil)))) (.seq (.ex (.call f_need_number (.cons (.loc 1) (.cons (.k (.int 0)) (.cons (.bin false .sub (.glo c_ROWS) (.k (.int 1))) (.nil)))))) (.ret (.call f_passes_in (.cons (.loc 0) (.cons (.call f_header_in (.cons (.loc 1) (.nil))) (.cons (.call f_port_in (.cons (.loc 1) (.nil))) (.nil)))))))
def S_actions_of (f_need_policy f_need_number f_actions_in c_SWITCHES c_ROWS : Nat) : S := .seq (.ex (.call f_need_policy (.cons (.loc 0) (.nil)))) (.seq (.ex (.call f_need_number (.cons (.loc 1) (.cons (.k (.int 0)) (.cons (.bin false .sub (.glo c_SWITCHES) (.k (.int 1))) (.nil)))))) (.seq (.ex (.call f_need_number (.cons (.loc 2) (.cons (.k (.int 0)) (.cons (.bin false .sub (.glo c_ROWS) (.k (.int 1))) (.nil)))))) (.ret (.call f_actions_in (.cons (.loc 0) (.cons (.loc 1) (.cons (.loc 2) (.nil))))))))
structure ActLib (pr : Prg) where
  P : PolLib pr
  M : MeanLib pr
  ROWS : Nat
  SWITCHES : Nat
  passes : Nat
  actions_of : Nat
  h_ROWS : pr.con[ROWS]? = some (.int 256)
  h_SWITCHES : pr.con[SWITCHES]? = some (.int 4)
  h_passes : pr.fns[passes]? = some ⟨2, 2, S_passes P.need_test P.need_number M.passes_in M.header_in M.port_in ROWS⟩
  h_actions_of : pr.fns[actions_of]? = some ⟨3, 3, S_actions_of P.need_policy P.need_number M.actions_in SWITCHES ROWS⟩
theorem acts_D (l : List Card) : ∀ x ∈ isort (l.map encA), x.isD = true := isort_D fun x hx => by obtain ⟨y, _, rfl⟩ := List.mem_map.mp hx; exact encA_D y
theorem keyS_all {l : List PV} (h : ∀ x ∈ l, x.keyS = true) : keySAll l = true := by
  induction l with
  | nil => rfl
  | cons x l ih => simp only [keySAll, h x (by simp), ih fun y hy => h y (by simp [hy]), Bool.and_self]
theorem dep_all {l : List PV} {k : Nat} (h : ∀ x ∈ l, x.dep ≤ k) : depAll l ≤ k + 1 := by
  induction l with
  | nil => simp [depAll]
  | cons x l ih =>
    have h1 := h x (by simp)
    have h2 := ih fun y hy => h y (by simp [hy])
    simp only [depAll]
    omega
theorem in_acts {l : List Card} {x : PV} (h : x ∈ isort (l.map encA)) : ∃ y, encA y = x := by
  obtain ⟨y, _, e⟩ := List.mem_map.mp ((isort_perm _).mem_iff.mp h)
  exact ⟨y, e⟩
theorem actsV_D (p : Pol) (sw row : Int) : (actsV p sw row).isD = true := rfl
theorem actsV_S (p : Pol) (sw row : Int) : (actsV p sw row).keyS = true := by
  unfold actsV PV.keyS
  exact keyS_all fun x hx => by obtain ⟨y, rfl⟩ := in_acts hx; exact encA_S y
theorem actsV_dep (p : Pol) (sw row : Int) : (actsV p sw row).dep ≤ 3 := by
  unfold actsV PV.dep
  have := dep_all (k := 1) (l := isort ((actsOf (lcards (rowAt sw row) p (-1, -1, -1, -1))).map encA)) fun x hx => by obtain ⟨y, rfl⟩ := in_acts hx; rw [encA_dep]; omega
  omega
theorem actsV_eq (p : Pol) (sw row : Int) (m : Mem) : eqM m (actsV p sw row) (actsV p sw row) = some true := by
  rw [eqM_d (actsV_D _ _ _) (actsV_D _ _ _) (by have := actsV_dep p sw row; omega), eqv_self (actsV_S _ _ _)]
section
variable {pr : Prg} (L : ActLib pr)
theorem ActLib.r_passes (n : Nat) (a b : PV) (m : Mem) : run pr (n + 1) L.passes [a, b] m = goP pr (S_passes L.P.need_test L.P.need_number L.M.passes_in L.M.header_in L.M.port_in L.ROWS) 2 2 n [a, b] m := run_go L.h_passes _ _ _ rfl
theorem ActLib.r_actions_of (n : Nat) (a b c : PV) (m : Mem) : run pr (n + 1) L.actions_of [a, b, c] m = goP pr (S_actions_of L.P.need_policy L.P.need_number L.M.actions_in L.SWITCHES L.ROWS) 3 3 n [a, b, c] m := run_go L.h_actions_of _ _ _ rfl
theorem actions_of_ {p : Pol} (ok : p.ok) (h1 : p.ht ≤ 12) (h2 : p.sz ≤ 60) (hN : NC p.dp ≤ 1000) {sw row : Int} (s1 : 0 ≤ sw) (s2 : sw ≤ 3) (r1 : 0 ≤ row) (r2 : row ≤ 255) (n : Nat) (m : Mem) : run pr (n + 19) L.actions_of [p.enc, .int sw, .int row] m = .ok (actsV p sw row) m := by
  have e1 : ∀ m, run pr (n + 18) L.P.need_policy [p.enc] m = _ := fun m => need_policy_t L.P ok h1 h2 (n := n)
  have e2 : ∀ m, run pr (n + 18) L.P.need_number [.int sw, .int 0, .int 3] m = _ := fun m => need_number_t L.P.toShLib s1 s2 (n := n + 16)
  have e3 : ∀ m, run pr (n + 18) L.P.need_number [.int row, .int 0, .int 255] m = _ := fun m => need_number_t L.P.toShLib r1 r2 (n := n + 16)
  have e4 : ∀ m, run pr (n + 18) L.M.actions_in [p.enc, .int sw, .int row] m = .ok (actsV p sw row) m := fun m => by
    have := actions_in_ L.M p ok hN sw row (n + (14 - p.ht)) m
    rwa [show n + (14 - p.ht) + p.ht + 4 = n + 18 by omega] at this
  rw [show n + 19 = (n + 18) + 1 from rfl, L.r_actions_of]
  simp [goP, S_actions_of, x_k, x_loc, x_glo, x_bin, x_neg, x_not, x_and, x_or, x_cmp, x_cmp2, x_ite, x_nil, x_cons, x_tup, x_lst, x_ix, x_sl, x_call, x_bf, x_isi, x_rng, x_zip, x_zip3, x_enu, x_rng2, x_comp, x_dget, x_index, x_indexc, x_tell, s_skip, s_seq, s_ex, s_ret, s_asg, s_par, s_ite, s_for, thenS_next, thenS_ret, fin_ret, fin_next, ob_some, obl_bl, bnd_if, lft_if, unl, bnd_ok, bnd_no, lft_some, lft_none, e1, e2, e3, e4, L.h_ROWS, L.h_SWITCHES, binop, arith, vw_t, vw_l, vw_s, vw_i, vw_b, eqv_ss, eqv_ii, item_t, atI, D_non, D_bl, D_int, D_str, D_tup, D_lst, P_non, P_bl, P_int, P_str, P_tup, P_lst, P_nil, P_cons, eqM_d, isIn_t, isIn_l]
theorem passes_ {t : Tst} (ok : t.ok) (h1 : t.ht ≤ 12) (h2 : t.sz ≤ 60) {row : Int} (r1 : 0 ≤ row) (r2 : row ≤ 255) (n : Nat) (m : Mem) : run pr (n + 19) L.passes [t.enc, .int row] m = .ok (.bl (t.says (row / 16 % 4) (row / 4 % 4) (row % 4) (row / 64))) m := by
  have e1 : ∀ m, run pr (n + 18) L.P.need_test [t.enc] m = _ := fun m => need_test_t L.P ok h1 h2 (n := n)
  have e3 : ∀ m, run pr (n + 18) L.P.need_number [.int row, .int 0, .int 255] m = _ := fun m => need_number_t L.P.toShLib r1 r2 (n := n + 16)
  have e4 : ∀ m, run pr (n + 18) L.M.header_in [.int row] m = _ := fun m => header_ L.M.toRowLib (n := n + 17)
  have e5 : ∀ m, run pr (n + 18) L.M.port_in [.int row] m = _ := fun m => port_ L.M.toRowLib (n := n + 17)
  have e6 : ∀ m, run pr (n + 18) L.M.passes_in [t.enc, hdr (row / 16 % 4) (row / 4 % 4) (row % 4), .int (row / 64)] m = .ok (.bl (t.says (row / 16 % 4) (row / 4 % 4) (row % 4) (row / 64))) m := fun m => by
    have := says_in L.M (a := row / 16 % 4) (b := row / 4 % 4) (c := row % 4) (p := row / 64) t ok (n + (18 - t.ht)) m
    rwa [show n + (18 - t.ht) + t.ht = n + 18 by omega] at this
  rw [show n + 19 = (n + 18) + 1 from rfl, L.r_passes]
  simp [goP, S_passes, x_k, x_loc, x_glo, x_bin, x_neg, x_not, x_and, x_or, x_cmp, x_cmp2, x_ite, x_nil, x_cons, x_tup, x_lst, x_ix, x_sl, x_call, x_bf, x_isi, x_rng, x_zip, x_zip3, x_enu, x_rng2, x_comp, x_dget, x_index, x_indexc, x_tell, s_skip, s_seq, s_ex, s_ret, s_asg, s_par, s_ite, s_for, thenS_next, thenS_ret, fin_ret, fin_next, ob_some, obl_bl, bnd_if, lft_if, unl, bnd_ok, bnd_no, lft_some, lft_none, e1, e3, e4, e5, e6, L.h_ROWS, binop, arith, vw_t, vw_l, vw_s, vw_i, vw_b, eqv_ss, eqv_ii, item_t, atI, D_non, D_bl, D_int, D_str, D_tup, D_lst, P_non, P_bl, P_int, P_str, P_tup, P_lst, P_nil, P_cons, eqM_d, isIn_t, isIn_l]
end
end Pv
namespace P02
open Pv
-- constants: 0 FIELDS, 1 HIGH, 2 PORTS, 3 SWITCHES, 4 ROWS, 5 NOT, 6 PLAIN, 7 NODES, 8 HEIGHT
-- classes: 0 TagError, 1 InvalidNumber, 2 InvalidTest, 3 InvalidPolicy
def con : List PV := [.tup [.str [102, 114, 111, 109], .str [116, 111], .str [109, 97, 114, 107]], .int 3, .int 4, .int 4, .int 256, .int (-1), .tup [.int (-1), .int (-1), .int (-1)], .int 60, .int 12]
-- _law_error
def w0 : Cls := [(1, [1], .word [110, 117, 109, 98, 101, 114]), (3, [3], .word [112, 111, 108, 105, 99, 121]), (2, [2], .word [116, 101, 115, 116]), (0, [0, 1, 2, 3], .word [111, 116, 104, 101, 114])]
def a0 : An := .word []
-- 0 is_whole(value, low, high): value low high
def b0 : S := .ret (.and (.isi (.loc 0) .int) (.and (.not (.isi (.loc 0) .bool)) (.cmp2 .le .le (.loc 1) (.loc 0) (.loc 2))))
def f0 : Fn := ⟨3, 3, b0⟩
-- 1 is_tuple_of(value, low, high): value low high
def b1 : S := .ret (.and (.isi (.loc 0) .tuple) (.cmp2 .le .le (.loc 1) (.bf false .len (.cons (.loc 0) (.nil))) (.loc 2)))
def f1 : Fn := ⟨3, 3, b1⟩
-- 2 is_word_of(value, words): value words
def b2 : S := .ret (.and (.isi (.loc 0) .str) (.cmp .in_ (.loc 0) (.loc 1)))
def f2 : Fn := ⟨2, 2, b2⟩
-- 3 is_headed(value, low, high): value low high
def b3 : S := .ret (.and (.call 1 (.cons (.loc 0) (.cons (.loc 1) (.cons (.loc 2) (.nil))))) (.isi (.ix (.loc 0) (.k (.int 0))) .str))
def f3 : Fn := ⟨3, 3, b3⟩
-- 4 is_ascending(values): values low high
def b4 : S := .ret (.bf false .all (.cons (.comp false [1, 2] (.t (.cons (.v 1) (.cons (.v 2) (.nil)))) (.zip (.loc 0) (.sl (.loc 0) (.k (.int 1)) (.k .non))) (.k (.bl true)) (.cmp .lt (.loc 1) (.loc 2))) (.nil)))
def f4 : Fn := ⟨1, 3, b4⟩
-- 5 need_number(value, low, high): value low high
def b5 : S := .ite (.not (.call 0 (.cons (.loc 0) (.cons (.loc 1) (.cons (.loc 2) (.nil)))))) (.raise 1) (.skip)
def f5 : Fn := ⟨3, 3, b5⟩
-- 6 is_field_test(value): value
def b6 : S := .seq (.ite (.or (.cmp .ne (.bf false .len (.cons (.loc 0) (.nil))) (.k (.int 4))) (.or (.not (.call 2 (.cons (.ix (.loc 0) (.k (.int 1))) (.cons (.glo 0) (.nil))))) (.not (.call 0 (.cons (.ix (.loc 0) (.k (.int 2))) (.cons (.k (.int 0)) (.cons (.glo 1) (.nil)))))))) (.ret (.k (.bl false))) (.skip)) (.ret (.call 0 (.cons (.ix (.loc 0) (.k (.int 3))) (.cons (.ix (.loc 0) (.k (.int 2))) (.cons (.glo 1) (.nil))))))
def f6 : Fn := ⟨1, 1, b6⟩
-- 7 test_left(value, high, many): value high many sort rest part
def b7 : S := .seq (.ite (.or (.cmp .eq (.loc 1) (.k (.int 0))) (.or (.cmp .eq (.loc 2) (.k (.int 0))) (.not (.call 3 (.cons (.loc 0) (.cons (.k (.int 1)) (.cons (.k (.int 4)) (.nil)))))))) (.ret (.neg (.k (.int 1)))) (.skip)) (.seq (.par (.t (.cons (.v 3) (.cons (.v 4) (.nil)))) (.cons (.ix (.loc 0) (.k (.int 0))) (.cons (.bin false .sub (.loc 2) (.k (.int 1))) (.nil)))) (.seq (.ite (.or (.and (.cmp .eq (.loc 3) (.k (.str [97, 110, 121]))) (.cmp .eq (.bf false .len (.cons (.loc 0) (.nil))) (.k (.int 1)))) (.and (.cmp .eq (.loc 3) (.k (.str [102, 105, 101, 108, 100]))) (.call 6 (.cons (.loc 0) (.nil))))) (.ret (.loc 4)) (.skip)) (.seq (.ite (.and (.cmp .eq (.loc 3) (.k (.str [105, 110]))) (.and (.cmp .eq (.bf false .len (.cons (.loc 0) (.nil))) (.k (.int 2))) (.call 0 (.cons (.ix (.loc 0) (.k (.int 1))) (.cons (.k (.int 0)) (.cons (.bin false .sub (.glo 2) (.k (.int 1))) (.nil))))))) (.ret (.loc 4)) (.skip)) (.seq (.ite (.not (.or (.and (.cmp .eq (.loc 3) (.k (.str [110, 111, 116]))) (.cmp .eq (.bf false .len (.cons (.loc 0) (.nil))) (.k (.int 2)))) (.and (.cmp .in_ (.loc 3) (.tup (.cons (.k (.str [97, 110, 100])) (.cons (.k (.str [111, 114])) (.nil))))) (.cmp .eq (.bf false .len (.cons (.loc 0) (.nil))) (.k (.int 3)))))) (.ret (.neg (.k (.int 1)))) (.skip)) (.seq (.for_ (.v 5) (.sl (.loc 0) (.k (.int 1)) (.k .non)) (.asg (.v 4) (.ite (.cmp .ge (.loc 4) (.k (.int 0))) (.call 7 (.cons (.loc 5) (.cons (.bin false .sub (.loc 1) (.k (.int 1))) (.cons (.loc 4) (.nil))))) (.neg (.k (.int 1)))))) (.ret (.loc 4)))))))
def f7 : Fn := ⟨3, 6, b7⟩
-- 8 is_leaf(value): value
def b8 : S := .seq (.ite (.cmp .in_ (.ix (.loc 0) (.k (.int 0))) (.tup (.cons (.k (.str [100, 114, 111, 112])) (.cons (.k (.str [112, 97, 115, 115])) (.nil))))) (.ret (.cmp .eq (.bf false .len (.cons (.loc 0) (.nil))) (.k (.int 1)))) (.skip)) (.seq (.ite (.cmp .eq (.ix (.loc 0) (.k (.int 0))) (.k (.str [111, 117, 116]))) (.ret (.and (.cmp .eq (.bf false .len (.cons (.loc 0) (.nil))) (.k (.int 2))) (.call 0 (.cons (.ix (.loc 0) (.k (.int 1))) (.cons (.k (.int 0)) (.cons (.bin false .sub (.glo 2) (.k (.int 1))) (.nil))))))) (.skip)) (.ret (.and (.cmp .eq (.ix (.loc 0) (.k (.int 0))) (.k (.str [115, 101, 116]))) (.and (.cmp .eq (.bf false .len (.cons (.loc 0) (.nil))) (.k (.int 3))) (.and (.call 2 (.cons (.ix (.loc 0) (.k (.int 1))) (.cons (.glo 0) (.nil)))) (.call 0 (.cons (.ix (.loc 0) (.k (.int 2))) (.cons (.k (.int 0)) (.cons (.glo 1) (.nil))))))))))
def f8 : Fn := ⟨1, 1, b8⟩
-- 9 are_switches(value): value own
def b9 : S := .seq (.ite (.or (.not (.call 1 (.cons (.loc 0) (.cons (.k (.int 1)) (.cons (.glo 3) (.nil)))))) (.not (.bf false .all (.cons (.comp false [1] (.v 1) (.loc 0) (.k (.bl true)) (.call 0 (.cons (.loc 1) (.cons (.k (.int 0)) (.cons (.bin false .sub (.glo 3) (.k (.int 1))) (.nil)))))) (.nil))))) (.ret (.k (.bl false))) (.skip)) (.ret (.call 4 (.cons (.loc 0) (.nil))))
def f9 : Fn := ⟨1, 2, b9⟩
-- 10 parts_in(value): value sort many
def b10 : S := .seq (.par (.t (.cons (.v 1) (.cons (.v 2) (.nil)))) (.cons (.ix (.loc 0) (.k (.int 0))) (.cons (.bf false .len (.cons (.loc 0) (.nil))) (.nil)))) (.seq (.ite (.and (.cmp .in_ (.loc 1) (.tup (.cons (.k (.str [98, 111, 116, 104])) (.cons (.k (.str [116, 104, 101, 110])) (.nil))))) (.cmp .eq (.loc 2) (.k (.int 3)))) (.ret (.sl (.loc 0) (.k (.int 1)) (.k .non))) (.skip)) (.seq (.ite (.and (.cmp .eq (.loc 1) (.k (.str [105, 102]))) (.cmp .eq (.loc 2) (.k (.int 4)))) (.ret (.sl (.loc 0) (.k (.int 2)) (.k .non))) (.skip)) (.ret (.ite (.and (.cmp .eq (.loc 1) (.k (.str [97, 116]))) (.and (.cmp .eq (.loc 2) (.k (.int 3))) (.call 9 (.cons (.ix (.loc 0) (.k (.int 1))) (.nil))))) (.sl (.loc 0) (.k (.int 2)) (.k .non)) (.k (.non))))))
def f10 : Fn := ⟨1, 3, b10⟩
-- 11 policy_left(value, high, many): value high many rest parts part
def b11 : S := .seq (.ite (.or (.cmp .eq (.loc 1) (.k (.int 0))) (.or (.cmp .eq (.loc 2) (.k (.int 0))) (.not (.call 3 (.cons (.loc 0) (.cons (.k (.int 1)) (.cons (.k (.int 4)) (.nil)))))))) (.ret (.neg (.k (.int 1)))) (.skip)) (.seq (.asg (.v 3) (.bin false .sub (.loc 2) (.k (.int 1)))) (.seq (.ite (.call 8 (.cons (.loc 0) (.nil))) (.ret (.loc 3)) (.skip)) (.seq (.asg (.v 4) (.call 10 (.cons (.loc 0) (.nil)))) (.seq (.ite (.cmp .is_ (.loc 4) (.k (.non))) (.ret (.neg (.k (.int 1)))) (.skip)) (.seq (.ite (.cmp .eq (.ix (.loc 0) (.k (.int 0))) (.k (.str [105, 102]))) (.asg (.v 3) (.call 7 (.cons (.ix (.loc 0) (.k (.int 1))) (.cons (.bin false .sub (.loc 1) (.k (.int 1))) (.cons (.loc 3) (.nil)))))) (.skip)) (.seq (.for_ (.v 5) (.loc 4) (.asg (.v 3) (.ite (.cmp .ge (.loc 3) (.k (.int 0))) (.call 11 (.cons (.loc 5) (.cons (.bin false .sub (.loc 1) (.k (.int 1))) (.cons (.loc 3) (.nil))))) (.neg (.k (.int 1)))))) (.ret (.loc 3))))))))
def f11 : Fn := ⟨3, 6, b11⟩
-- 12 fits_test(value): value
def b12 : S := .ret (.cmp .ge (.call 7 (.cons (.loc 0) (.cons (.glo 8) (.cons (.glo 7) (.nil))))) (.k (.int 0)))
def f12 : Fn := ⟨1, 1, b12⟩
-- 13 fits_policy(value): value
def b13 : S := .ret (.cmp .ge (.call 11 (.cons (.loc 0) (.cons (.glo 8) (.cons (.glo 7) (.nil))))) (.k (.int 0)))
def f13 : Fn := ⟨1, 1, b13⟩
-- 14 need_test(value): value
def b14 : S := .ite (.not (.call 12 (.cons (.loc 0) (.nil)))) (.raise 2) (.skip)
def f14 : Fn := ⟨1, 1, b14⟩
-- 15 need_policy(value): value
def b15 : S := .ite (.not (.call 13 (.cons (.loc 0) (.nil)))) (.raise 3) (.skip)
def f15 : Fn := ⟨1, 1, b15⟩
-- 16 header_in(row): row
def b16 : S := .ret (.tup (.cons (.bin false .mod (.bin false .fdiv (.loc 0) (.k (.int 16))) (.k (.int 4))) (.cons (.bin false .mod (.bin false .fdiv (.loc 0) (.k (.int 4))) (.k (.int 4))) (.cons (.bin false .mod (.loc 0) (.k (.int 4))) (.nil)))))
def f16 : Fn := ⟨1, 1, b16⟩
-- 17 port_in(row): row
def b17 : S := .ret (.bin false .fdiv (.loc 0) (.k (.int 64)))
def f17 : Fn := ⟨1, 1, b17⟩
-- 18 laid_on(header, fields): header fields own one
def b18 : S := .ret (.bf false .tuple (.cons (.comp false [2, 3] (.t (.cons (.v 2) (.cons (.v 3) (.nil)))) (.zip (.loc 0) (.loc 1)) (.k (.bl true)) (.ite (.cmp .eq (.loc 3) (.glo 5)) (.loc 2) (.loc 3))) (.nil)))
def f18 : Fn := ⟨2, 4, b18⟩
-- 19 passes_in(test, header, port): test header port sort one other
def b19 : S := .seq (.asg (.v 3) (.ix (.loc 0) (.k (.int 0)))) (.seq (.ite (.cmp .eq (.loc 3) (.k (.str [97, 110, 121]))) (.ret (.k (.bl true))) (.skip)) (.seq (.ite (.cmp .eq (.loc 3) (.k (.str [102, 105, 101, 108, 100]))) (.ret (.cmp2 .le .le (.ix (.loc 0) (.k (.int 2))) (.ix (.loc 1) (.indexc 0 (.ix (.loc 0) (.k (.int 1))))) (.ix (.loc 0) (.k (.int 3))))) (.skip)) (.seq (.ite (.cmp .eq (.loc 3) (.k (.str [105, 110]))) (.ret (.cmp .eq (.loc 2) (.ix (.loc 0) (.k (.int 1))))) (.skip)) (.seq (.ite (.cmp .eq (.loc 3) (.k (.str [110, 111, 116]))) (.ret (.not (.call 19 (.cons (.ix (.loc 0) (.k (.int 1))) (.cons (.loc 1) (.cons (.loc 2) (.nil))))))) (.skip)) (.seq (.asg (.v 4) (.call 19 (.cons (.ix (.loc 0) (.k (.int 1))) (.cons (.loc 1) (.cons (.loc 2) (.nil)))))) (.seq (.asg (.v 5) (.call 19 (.cons (.ix (.loc 0) (.k (.int 2))) (.cons (.loc 1) (.cons (.loc 2) (.nil)))))) (.ret (.ite (.cmp .eq (.loc 3) (.k (.str [97, 110, 100]))) (.and (.loc 4) (.loc 5)) (.or (.loc 4) (.loc 5))))))))))
def f19 : Fn := ⟨3, 6, b19⟩
-- 20 put(triple, at, value): triple at value
def b20 : S := .ret (.bin false .add (.bin false .add (.sl (.loc 0) (.k .non) (.loc 1)) (.tup (.cons (.loc 2) (.nil)))) (.sl (.loc 0) (.bin false .add (.loc 1) (.k (.int 1))) (.k .non)))
def f20 : Fn := ⟨3, 3, b20⟩
-- 21 united(lots): lots found lot own
def b21 : S := .seq (.asg (.v 1) (.lst false (.nil))) (.seq (.for_ (.v 2) (.loc 0) (.asg (.v 1) (.bin false .add (.loc 1) (.comp false [3] (.v 3) (.loc 2) (.cmp .notin (.loc 3) (.loc 1)) (.loc 3))))) (.ret (.loc 1)))
def f21 : Fn := ⟨1, 4, b21⟩
-- 22 cards_by(policy, switch, header, port, card): policy switch header port card sort made part own
def b22 : S := .seq (.asg (.v 5) (.ix (.loc 0) (.k (.int 0)))) (.seq (.ite (.cmp .eq (.loc 5) (.k (.str [100, 114, 111, 112]))) (.ret (.lst false (.nil))) (.skip)) (.seq (.ite (.cmp .eq (.loc 5) (.k (.str [112, 97, 115, 115]))) (.ret (.lst false (.cons (.loc 4) (.nil)))) (.skip)) (.seq (.ite (.cmp .eq (.loc 5) (.k (.str [115, 101, 116]))) (.ret (.lst false (.cons (.tup (.cons (.call 20 (.cons (.ix (.loc 4) (.k (.int 0))) (.cons (.indexc 0 (.ix (.loc 0) (.k (.int 1)))) (.cons (.ix (.loc 0) (.k (.int 2))) (.nil))))) (.cons (.ix (.loc 4) (.k (.int 1))) (.nil)))) (.nil)))) (.skip)) (.seq (.ite (.cmp .eq (.loc 5) (.k (.str [111, 117, 116]))) (.ret (.lst false (.cons (.tup (.cons (.ix (.loc 4) (.k (.int 0))) (.cons (.ix (.loc 0) (.k (.int 1))) (.nil)))) (.nil)))) (.skip)) (.seq (.ite (.cmp .eq (.loc 5) (.k (.str [116, 104, 101, 110]))) (.seq (.asg (.v 6) (.call 22 (.cons (.ix (.loc 0) (.k (.int 1))) (.cons (.loc 1) (.cons (.loc 2) (.cons (.loc 3) (.cons (.loc 4) (.nil)))))))) (.ret (.call 21 (.cons (.comp false [8] (.v 8) (.loc 6) (.k (.bl true)) (.call 22 (.cons (.ix (.loc 0) (.k (.int 2))) (.cons (.loc 1) (.cons (.loc 2) (.cons (.loc 3) (.cons (.loc 8) (.nil)))))))) (.nil))))) (.skip)) (.seq (.ite (.cmp .eq (.loc 5) (.k (.str [98, 111, 116, 104]))) (.ret (.call 21 (.cons (.comp false [7] (.v 7) (.sl (.loc 0) (.k (.int 1)) (.k .non)) (.k (.bl true)) (.call 22 (.cons (.loc 7) (.cons (.loc 1) (.cons (.loc 2) (.cons (.loc 3) (.cons (.loc 4) (.nil)))))))) (.nil)))) (.skip)) (.seq (.ite (.cmp .eq (.loc 5) (.k (.str [97, 116]))) (.ret (.ite (.cmp .in_ (.loc 1) (.ix (.loc 0) (.k (.int 1)))) (.call 22 (.cons (.ix (.loc 0) (.k (.int 2))) (.cons (.loc 1) (.cons (.loc 2) (.cons (.loc 3) (.cons (.loc 4) (.nil))))))) (.lst false (.nil)))) (.skip)) (.seq (.asg (.v 7) (.ite (.call 19 (.cons (.ix (.loc 0) (.k (.int 1))) (.cons (.call 18 (.cons (.loc 2) (.cons (.ix (.loc 4) (.k (.int 0))) (.nil)))) (.cons (.loc 3) (.nil))))) (.ix (.loc 0) (.k (.int 2))) (.ix (.loc 0) (.k (.int 3))))) (.ret (.call 22 (.cons (.loc 7) (.cons (.loc 1) (.cons (.loc 2) (.cons (.loc 3) (.cons (.loc 4) (.nil))))))))))))))))
def f22 : Fn := ⟨5, 9, b22⟩
-- 23 actions_in(policy, switch, row): policy switch row made fields port
def b23 : S := .seq (.asg (.v 3) (.call 22 (.cons (.loc 0) (.cons (.loc 1) (.cons (.call 16 (.cons (.loc 2) (.nil))) (.cons (.call 17 (.cons (.loc 2) (.nil))) (.cons (.tup (.cons (.glo 6) (.cons (.glo 5) (.nil)))) (.nil)))))))) (.ret (.bf false .tuple (.cons (.bf false .sorted (.cons (.comp false [4, 5] (.t (.cons (.v 4) (.cons (.v 5) (.nil)))) (.loc 3) (.cmp .ne (.loc 5) (.glo 5)) (.bin false .add (.tup (.cons (.loc 5) (.nil))) (.loc 4))) (.nil))) (.nil))))
def f23 : Fn := ⟨3, 6, b23⟩
-- 24 passes(test, row): test row
def b24 : S := .seq (.ex (.call 14 (.cons (.loc 0) (.nil)))) (.seq (.ex (.call 5 (.cons (.loc 1) (.cons (.k (.int 0)) (.cons (.bin false .sub (.glo 4) (.k (.int 1))) (.nil)))))) (.ret (.call 19 (.cons (.loc 0) (.cons (.call 16 (.cons (.loc 1) (.nil))) (.cons (.call 17 (.cons (.loc 1) (.nil))) (.nil)))))))
def f24 : Fn := ⟨2, 2, b24⟩
-- 25 actions_of(policy, switch, row): policy switch row
def b25 : S := .seq (.ex (.call 15 (.cons (.loc 0) (.nil)))) (.seq (.ex (.call 5 (.cons (.loc 1) (.cons (.k (.int 0)) (.cons (.bin false .sub (.glo 3) (.k (.int 1))) (.nil)))))) (.seq (.ex (.call 5 (.cons (.loc 2) (.cons (.k (.int 0)) (.cons (.bin false .sub (.glo 4) (.k (.int 1))) (.nil)))))) (.ret (.call 23 (.cons (.loc 0) (.cons (.loc 1) (.cons (.loc 2) (.nil))))))))
def f25 : Fn := ⟨3, 3, b25⟩
-- 26 _law_cup(script): script cell
def b26 : S := .seq (.asg (.v 1) (.bf false .abs (.cons (.ix (.bin false .add (.bf false .list (.cons (.loc 0) (.nil))) (.lst false (.cons (.k (.int 0)) (.nil)))) (.k (.int 0))) (.nil)))) (.ret (.lst true (.cons (.ite (.cmp .ge (.loc 1) (.bin false .pow (.k (.int 10)) (.k (.int 18)))) (.bin false .fdiv (.loc 1) (.k (.int 127))) (.k (.int 0))) (.cons (.bin false .add (.bin false .mod (.bf false .int_ (.cons (.bin false .add (.bin false .mul (.loc 1) (.k (.int 353))) (.k (.int 2797))) (.nil))) (.k (.int 2077503023))) (.k (.int 229))) (.nil)))))
def f26 : Fn := ⟨1, 2, b26⟩
-- 27 _law_roll(cup, many): cup many found deep
def b27 : S := .seq (.ite (.cmp .gt (.ix (.loc 0) (.k (.int 0))) (.k (.int 0))) (.seq (.asg (.v 2) (.bin false .mod (.bf false .int_ (.cons (.ix (.loc 0) (.k (.int 0))) (.nil))) (.loc 1))) (.seq (.setix (.loc 0) (.k (.int 0)) (.bin false .fdiv (.ix (.loc 0) (.k (.int 0))) (.loc 1))) (.ret (.loc 2)))) (.skip)) (.seq (.setix (.loc 0) (.k (.int 1)) (.bin false .mod (.bf false .int_ (.cons (.bin false .add (.bin false .mul (.ix (.loc 0) (.k (.int 1))) (.k (.int 31177))) (.k (.int 8117))) (.nil))) (.k (.int 2147483543)))) (.seq (.asg (.v 3) (.bin false .mod (.bf false .int_ (.cons (.bin false .mul (.ix (.loc 0) (.k (.int 1))) (.bin false .add (.ix (.loc 0) (.k (.int 1))) (.k (.int 293)))) (.nil))) (.k (.int 2147483587)))) (.ret (.bin false .mod (.bf false .int_ (.cons (.bin false .fdiv (.loc 3) (.k (.int 887))) (.nil))) (.loc 1)))))
def f27 : Fn := ⟨2, 4, b27⟩
-- 28 _law_some(cup, things): cup things
def b28 : S := .ret (.ix (.loc 1) (.call 27 (.cons (.loc 0) (.cons (.bf false .len (.cons (.loc 1) (.nil))) (.nil)))))
def f28 : Fn := ⟨2, 2, b28⟩
-- 29 _law_header(row): row
def b29 : S := .ret (.tup (.cons (.bin false .mod (.bf false .int_ (.cons (.bin false .fdiv (.loc 0) (.k (.int 16))) (.nil))) (.k (.int 4))) (.cons (.bin false .mod (.bf false .int_ (.cons (.bin false .fdiv (.loc 0) (.k (.int 4))) (.nil))) (.k (.int 4))) (.cons (.bin false .mod (.bf false .int_ (.cons (.loc 0) (.nil))) (.k (.int 4))) (.nil)))))
def f29 : Fn := ⟨1, 1, b29⟩
-- 30 _law_passes(test, header, port): test header port told part
def b30 : S := .seq (.ite (.cmp .eq (.ix (.loc 0) (.k (.int 0))) (.k (.str [97, 110, 121]))) (.ret (.k (.bl true))) (.skip)) (.seq (.ite (.cmp .eq (.ix (.loc 0) (.k (.int 0))) (.k (.str [102, 105, 101, 108, 100]))) (.ret (.cmp2 .le .le (.ix (.loc 0) (.k (.int 2))) (.ix (.loc 1) (.index (.lst false (.cons (.k (.str [102, 114, 111, 109])) (.cons (.k (.str [116, 111])) (.cons (.k (.str [109, 97, 114, 107])) (.nil))))) (.ix (.loc 0) (.k (.int 1))))) (.ix (.loc 0) (.k (.int 3))))) (.skip)) (.seq (.ite (.cmp .eq (.ix (.loc 0) (.k (.int 0))) (.k (.str [105, 110]))) (.ret (.cmp .eq (.loc 2) (.ix (.loc 0) (.k (.int 1))))) (.skip)) (.seq (.asg (.v 3) (.comp false [4] (.v 4) (.sl (.loc 0) (.k (.int 1)) (.k .non)) (.k (.bl true)) (.call 30 (.cons (.loc 4) (.cons (.loc 1) (.cons (.loc 2) (.nil))))))) (.ret (.ite (.cmp .eq (.ix (.loc 0) (.k (.int 0))) (.k (.str [110, 111, 116]))) (.not (.ix (.loc 3) (.k (.int 0)))) (.ite (.cmp .eq (.ix (.loc 0) (.k (.int 0))) (.k (.str [97, 110, 100]))) (.cmp .notin (.k (.bl false)) (.loc 3)) (.cmp .in_ (.k (.bl true)) (.loc 3))))))))
def f30 : Fn := ⟨3, 5, b30⟩
-- 31 _law_cards(policy, switch, row, card): policy switch row card sort at header found part own one
def b31 : S := .seq (.asg (.v 4) (.ix (.loc 0) (.k (.int 0)))) (.seq (.ite (.cmp .in_ (.loc 4) (.lst false (.cons (.k (.str [100, 114, 111, 112])) (.cons (.k (.str [112, 97, 115, 115])) (.nil))))) (.ret (.ite (.cmp .eq (.loc 4) (.k (.str [112, 97, 115, 115]))) (.lst false (.cons (.loc 3) (.nil))) (.lst false (.nil)))) (.skip)) (.seq (.ite (.cmp .eq (.loc 4) (.k (.str [115, 101, 116]))) (.seq (.asg (.v 5) (.index (.lst false (.cons (.k (.str [102, 114, 111, 109])) (.cons (.k (.str [116, 111])) (.cons (.k (.str [109, 97, 114, 107])) (.nil))))) (.ix (.loc 0) (.k (.int 1))))) (.ret (.lst false (.cons (.tup (.cons (.bin false .add (.bin false .add (.sl (.ix (.loc 3) (.k (.int 0))) (.k .non) (.loc 5)) (.tup (.cons (.ix (.loc 0) (.k (.int 2))) (.nil)))) (.sl (.ix (.loc 3) (.k (.int 0))) (.bin false .add (.loc 5) (.k (.int 1))) (.k .non))) (.cons (.ix (.loc 3) (.k (.int 1))) (.nil)))) (.nil))))) (.skip)) (.seq (.ite (.cmp .eq (.loc 4) (.k (.str [111, 117, 116]))) (.ret (.lst false (.cons (.tup (.cons (.ix (.loc 3) (.k (.int 0))) (.cons (.ix (.loc 0) (.k (.int 1))) (.nil)))) (.nil)))) (.skip)) (.seq (.ite (.cmp .eq (.loc 4) (.k (.str [97, 116]))) (.ret (.ite (.cmp .in_ (.loc 1) (.ix (.loc 0) (.k (.int 1)))) (.call 31 (.cons (.ix (.loc 0) (.k (.int 2))) (.cons (.loc 1) (.cons (.loc 2) (.cons (.loc 3) (.nil)))))) (.lst false (.nil)))) (.skip)) (.seq (.ite (.cmp .eq (.loc 4) (.k (.str [105, 102]))) (.seq (.asg (.v 6) (.bf false .tuple (.cons (.comp false [9, 10] (.t (.cons (.v 9) (.cons (.v 10) (.nil)))) (.zip (.call 29 (.cons (.loc 2) (.nil))) (.ix (.loc 3) (.k (.int 0)))) (.k (.bl true)) (.ite (.cmp .lt (.loc 10) (.k (.int 0))) (.loc 9) (.loc 10))) (.nil)))) (.ret (.call 31 (.cons (.ix (.loc 0) (.ite (.call 30 (.cons (.ix (.loc 0) (.k (.int 1))) (.cons (.loc 6) (.cons (.bin false .fdiv (.loc 2) (.k (.int 64))) (.nil))))) (.k (.int 2)) (.k (.int 3)))) (.cons (.loc 1) (.cons (.loc 2) (.cons (.loc 3) (.nil)))))))) (.skip)) (.seq (.asg (.v 7) (.lst false (.nil))) (.seq (.ite (.cmp .eq (.loc 4) (.k (.str [98, 111, 116, 104]))) (.for_ (.v 8) (.sl (.loc 0) (.k (.int 1)) (.k .non)) (.asg (.v 7) (.bin false .add (.loc 7) (.call 31 (.cons (.loc 8) (.cons (.loc 1) (.cons (.loc 2) (.cons (.loc 3) (.nil))))))))) (.for_ (.v 9) (.call 31 (.cons (.ix (.loc 0) (.k (.int 1))) (.cons (.loc 1) (.cons (.loc 2) (.cons (.loc 3) (.nil)))))) (.asg (.v 7) (.bin false .add (.loc 7) (.call 31 (.cons (.ix (.loc 0) (.k (.int 2))) (.cons (.loc 1) (.cons (.loc 2) (.cons (.loc 9) (.nil)))))))))) (.ret (.bf false .sortset (.cons (.loc 7) (.nil)))))))))))
def f31 : Fn := ⟨4, 11, b31⟩
-- 32 _law_actions(policy, switch, row): policy switch row cards fields port
def b32 : S := .seq (.asg (.v 3) (.call 31 (.cons (.loc 0) (.cons (.loc 1) (.cons (.loc 2) (.cons (.tup (.cons (.tup (.cons (.neg (.k (.int 1))) (.cons (.neg (.k (.int 1))) (.cons (.neg (.k (.int 1))) (.nil))))) (.cons (.neg (.k (.int 1))) (.nil)))) (.nil))))))) (.ret (.bf false .tuple (.cons (.bf false .sorted (.cons (.comp false [4, 5] (.t (.cons (.v 4) (.cons (.v 5) (.nil)))) (.loc 3) (.cmp .ge (.loc 5) (.k (.int 0))) (.bin false .add (.tup (.cons (.loc 5) (.nil))) (.loc 4))) (.nil))) (.nil))))
def f32 : Fn := ⟨3, 6, b32⟩
-- 33 _law_test(cup, deep, ports): cup deep ports way low
def b33 : S := .seq (.asg (.v 3) (.ite (.cmp .gt (.loc 1) (.k (.int 0))) (.call 27 (.cons (.loc 0) (.cons (.k (.int 8)) (.nil)))) (.call 27 (.cons (.loc 0) (.cons (.k (.int 5)) (.nil)))))) (.seq (.ite (.cmp .lt (.loc 3) (.k (.int 4))) (.seq (.asg (.v 4) (.call 27 (.cons (.loc 0) (.cons (.k (.int 4)) (.nil))))) (.ret (.tup (.cons (.k (.str [102, 105, 101, 108, 100])) (.cons (.call 28 (.cons (.loc 0) (.cons (.lst false (.cons (.k (.str [102, 114, 111, 109])) (.cons (.k (.str [116, 111])) (.cons (.k (.str [109, 97, 114, 107])) (.nil))))) (.nil)))) (.cons (.loc 4) (.cons (.bin false .add (.loc 4) (.call 27 (.cons (.loc 0) (.cons (.bin false .sub (.k (.int 4)) (.loc 4)) (.nil))))) (.nil)))))))) (.skip)) (.seq (.ite (.cmp .eq (.loc 3) (.k (.int 4))) (.ret (.ite (.loc 2) (.tup (.cons (.k (.str [105, 110])) (.cons (.call 27 (.cons (.loc 0) (.cons (.k (.int 4)) (.nil)))) (.nil)))) (.tup (.cons (.k (.str [97, 110, 121])) (.nil))))) (.skip)) (.seq (.ite (.cmp .eq (.loc 3) (.k (.int 5))) (.ret (.tup (.cons (.k (.str [110, 111, 116])) (.cons (.call 33 (.cons (.loc 0) (.cons (.bin false .sub (.loc 1) (.k (.int 1))) (.cons (.loc 2) (.nil))))) (.nil))))) (.skip)) (.ret (.tup (.cons (.call 28 (.cons (.loc 0) (.cons (.lst false (.cons (.k (.str [97, 110, 100])) (.cons (.k (.str [111, 114])) (.nil)))) (.nil)))) (.cons (.call 33 (.cons (.loc 0) (.cons (.bin false .sub (.loc 1) (.k (.int 1))) (.cons (.loc 2) (.nil))))) (.cons (.call 33 (.cons (.loc 0) (.cons (.bin false .sub (.loc 1) (.k (.int 1))) (.cons (.loc 2) (.nil))))) (.nil)))))))))
def f33 : Fn := ⟨3, 5, b33⟩
-- 34 _law_policy(cup, deep): cup deep way
def b34 : S := .seq (.asg (.v 2) (.ite (.cmp .gt (.loc 1) (.k (.int 0))) (.call 27 (.cons (.loc 0) (.cons (.k (.int 9)) (.nil)))) (.call 27 (.cons (.loc 0) (.cons (.k (.int 4)) (.nil)))))) (.seq (.ite (.cmp .eq (.loc 2) (.k (.int 0))) (.ret (.call 28 (.cons (.loc 0) (.cons (.lst false (.cons (.tup (.cons (.k (.str [100, 114, 111, 112])) (.nil))) (.cons (.tup (.cons (.k (.str [112, 97, 115, 115])) (.nil))) (.cons (.tup (.cons (.k (.str [112, 97, 115, 115])) (.nil))) (.nil))))) (.nil))))) (.skip)) (.seq (.ite (.cmp .eq (.loc 2) (.k (.int 1))) (.ret (.tup (.cons (.k (.str [115, 101, 116])) (.cons (.call 28 (.cons (.loc 0) (.cons (.lst false (.cons (.k (.str [102, 114, 111, 109])) (.cons (.k (.str [116, 111])) (.cons (.k (.str [109, 97, 114, 107])) (.nil))))) (.nil)))) (.cons (.call 27 (.cons (.loc 0) (.cons (.k (.int 4)) (.nil)))) (.nil)))))) (.skip)) (.seq (.ite (.cmp .lt (.loc 2) (.k (.int 4))) (.ret (.tup (.cons (.k (.str [111, 117, 116])) (.cons (.call 27 (.cons (.loc 0) (.cons (.k (.int 4)) (.nil)))) (.nil))))) (.skip)) (.seq (.ite (.cmp .lt (.loc 2) (.k (.int 6))) (.ret (.tup (.cons (.k (.str [116, 104, 101, 110])) (.cons (.call 34 (.cons (.loc 0) (.cons (.bin false .sub (.loc 1) (.k (.int 1))) (.nil)))) (.cons (.call 34 (.cons (.loc 0) (.cons (.bin false .sub (.loc 1) (.k (.int 1))) (.nil)))) (.nil)))))) (.skip)) (.seq (.ite (.cmp .eq (.loc 2) (.k (.int 6))) (.ret (.tup (.cons (.k (.str [98, 111, 116, 104])) (.cons (.call 34 (.cons (.loc 0) (.cons (.bin false .sub (.loc 1) (.k (.int 1))) (.nil)))) (.cons (.call 34 (.cons (.loc 0) (.cons (.bin false .sub (.loc 1) (.k (.int 1))) (.nil)))) (.nil)))))) (.skip)) (.seq (.ite (.cmp .eq (.loc 2) (.k (.int 7))) (.ret (.tup (.cons (.k (.str [105, 102])) (.cons (.call 33 (.cons (.loc 0) (.cons (.k (.int 1)) (.cons (.k (.bl true)) (.nil))))) (.cons (.call 34 (.cons (.loc 0) (.cons (.bin false .sub (.loc 1) (.k (.int 1))) (.nil)))) (.cons (.call 34 (.cons (.loc 0) (.cons (.bin false .sub (.loc 1) (.k (.int 1))) (.nil)))) (.nil))))))) (.skip)) (.ret (.tup (.cons (.k (.str [97, 116])) (.cons (.call 28 (.cons (.loc 0) (.cons (.lst false (.cons (.tup (.cons (.k (.int 0)) (.nil))) (.cons (.tup (.cons (.k (.int 1)) (.nil))) (.cons (.tup (.cons (.k (.int 0)) (.cons (.k (.int 1)) (.nil)))) (.cons (.tup (.cons (.k (.int 1)) (.cons (.k (.int 2)) (.nil)))) (.cons (.tup (.cons (.k (.int 0)) (.cons (.k (.int 2)) (.cons (.k (.int 3)) (.nil))))) (.nil))))))) (.nil)))) (.cons (.call 34 (.cons (.loc 0) (.cons (.bin false .sub (.loc 1) (.k (.int 1))) (.nil)))) (.nil))))))))))))
def f34 : Fn := ⟨2, 3, b34⟩
-- 35 law(script): script cup turn policy test switch row set_to out is_two rows told words own odd
def b35 : S := .seq (.asg (.v 1) (.call 26 (.cons (.loc 0) (.nil)))) (.seq (.for_ (.v 2) (.rng (.k (.int 5))) (.seq (.par (.t (.cons (.v 3) (.cons (.v 4) (.cons (.v 5) (.cons (.v 6) (.nil)))))) (.cons (.call 34 (.cons (.loc 1) (.cons (.k (.int 3)) (.nil)))) (.cons (.call 33 (.cons (.loc 1) (.cons (.k (.int 2)) (.cons (.k (.bl true)) (.nil))))) (.cons (.call 27 (.cons (.loc 1) (.cons (.k (.int 4)) (.nil)))) (.cons (.call 27 (.cons (.loc 1) (.cons (.k (.int 256)) (.nil)))) (.nil)))))) (.ite (.or (.cmp .ne (.call 25 (.cons (.loc 3) (.cons (.loc 5) (.cons (.loc 6) (.nil))))) (.call 32 (.cons (.loc 3) (.cons (.loc 5) (.cons (.loc 6) (.nil)))))) (.cmp .ne (.call 24 (.cons (.loc 4) (.cons (.loc 6) (.nil)))) (.call 30 (.cons (.loc 4) (.cons (.call 29 (.cons (.loc 6) (.nil))) (.cons (.bin false .fdiv (.loc 6) (.k (.int 64))) (.nil))))))) (.ret (.k (.bl false))) (.skip)))) (.seq (.par (.t (.cons (.v 7) (.cons (.v 8) (.nil)))) (.cons (.tup (.cons (.k (.str [115, 101, 116])) (.cons (.k (.str [116, 111])) (.cons (.k (.int 2)) (.nil))))) (.cons (.tup (.cons (.k (.str [111, 117, 116])) (.cons (.k (.int 1)) (.nil)))) (.nil)))) (.seq (.asg (.v 9) (.tup (.cons (.k (.str [102, 105, 101, 108, 100])) (.cons (.k (.str [116, 111])) (.cons (.k (.int 2)) (.cons (.k (.int 2)) (.nil))))))) (.seq (.asg (.v 10) (.lst false (.cons (.tup (.cons (.tup (.cons (.k (.str [116, 104, 101, 110])) (.cons (.loc 7) (.cons (.tup (.cons (.k (.str [105, 102])) (.cons (.loc 9) (.cons (.loc 8) (.cons (.tup (.cons (.k (.str [100, 114, 111, 112])) (.nil))) (.nil)))))) (.nil))))) (.cons (.tup (.cons (.tup (.cons (.k (.int 1)) (.cons (.neg (.k (.int 1))) (.cons (.k (.int 2)) (.cons (.neg (.k (.int 1))) (.nil)))))) (.nil))) (.nil)))) (.cons (.tup (.cons (.tup (.cons (.k (.str [116, 104, 101, 110])) (.cons (.tup (.cons (.k (.str [105, 102])) (.cons (.loc 9) (.cons (.loc 8) (.cons (.tup (.cons (.k (.str [112, 97, 115, 115])) (.nil))) (.nil)))))) (.cons (.loc 7) (.nil))))) (.cons (.tup (.nil)) (.nil)))) (.nil))))) (.seq (.asg (.v 10) (.bin false .add (.loc 10) (.lst false (.cons (.tup (.cons (.tup (.cons (.k (.str [116, 104, 101, 110])) (.cons (.loc 8) (.cons (.tup (.cons (.k (.str [111, 117, 116])) (.cons (.k (.int 0)) (.nil)))) (.nil))))) (.cons (.tup (.cons (.tup (.cons (.k (.int 0)) (.cons (.neg (.k (.int 1))) (.cons (.neg (.k (.int 1))) (.cons (.neg (.k (.int 1))) (.nil)))))) (.nil))) (.nil)))) (.cons (.tup (.cons (.tup (.cons (.k (.str [98, 111, 116, 104])) (.cons (.loc 8) (.cons (.loc 8) (.nil))))) (.cons (.tup (.cons (.tup (.cons (.k (.int 1)) (.cons (.neg (.k (.int 1))) (.cons (.neg (.k (.int 1))) (.cons (.neg (.k (.int 1))) (.nil)))))) (.nil))) (.nil)))) (.cons (.tup (.cons (.tup (.cons (.k (.str [98, 111, 116, 104])) (.cons (.tup (.cons (.k (.str [112, 97, 115, 115])) (.nil))) (.cons (.loc 8) (.nil))))) (.cons (.tup (.cons (.tup (.cons (.k (.int 1)) (.cons (.neg (.k (.int 1))) (.cons (.neg (.k (.int 1))) (.cons (.neg (.k (.int 1))) (.nil)))))) (.nil))) (.nil)))) (.nil))))))) (.seq (.asg (.v 10) (.bin false .add (.loc 10) (.lst false (.cons (.tup (.cons (.tup (.cons (.k (.str [116, 104, 101, 110])) (.cons (.tup (.cons (.k (.str [98, 111, 116, 104])) (.cons (.loc 8) (.cons (.tup (.cons (.k (.str [111, 117, 116])) (.cons (.k (.int 3)) (.nil)))) (.nil))))) (.cons (.tup (.cons (.k (.str [98, 111, 116, 104])) (.cons (.loc 7) (.cons (.tup (.cons (.k (.str [112, 97, 115, 115])) (.nil))) (.nil))))) (.nil))))) (.cons (.tup (.cons (.tup (.cons (.k (.int 1)) (.cons (.neg (.k (.int 1))) (.cons (.neg (.k (.int 1))) (.cons (.neg (.k (.int 1))) (.nil)))))) (.cons (.tup (.cons (.k (.int 1)) (.cons (.neg (.k (.int 1))) (.cons (.k (.int 2)) (.cons (.neg (.k (.int 1))) (.nil)))))) (.cons (.tup (.cons (.k (.int 3)) (.cons (.neg (.k (.int 1))) (.cons (.neg (.k (.int 1))) (.cons (.neg (.k (.int 1))) (.nil)))))) (.cons (.tup (.cons (.k (.int 3)) (.cons (.neg (.k (.int 1))) (.cons (.k (.int 2)) (.cons (.neg (.k (.int 1))) (.nil)))))) (.nil)))))) (.nil)))) (.nil))))) (.seq (.asg (.v 10) (.bin false .add (.loc 10) (.lst false (.cons (.tup (.cons (.tup (.cons (.k (.str [116, 104, 101, 110])) (.cons (.loc 7) (.cons (.tup (.cons (.k (.str [116, 104, 101, 110])) (.cons (.tup (.cons (.k (.str [115, 101, 116])) (.cons (.k (.str [116, 111])) (.cons (.k (.int 0)) (.nil))))) (.cons (.loc 8) (.nil))))) (.nil))))) (.cons (.tup (.cons (.tup (.cons (.k (.int 1)) (.cons (.neg (.k (.int 1))) (.cons (.k (.int 0)) (.cons (.neg (.k (.int 1))) (.nil)))))) (.nil))) (.nil)))) (.cons (.tup (.cons (.tup (.cons (.k (.str [97, 116])) (.cons (.tup (.cons (.k (.int 1)) (.cons (.k (.int 3)) (.nil)))) (.cons (.loc 8) (.nil))))) (.cons (.tup (.nil)) (.nil)))) (.cons (.tup (.cons (.tup (.cons (.k (.str [97, 116])) (.cons (.tup (.cons (.k (.int 0)) (.cons (.k (.int 2)) (.nil)))) (.cons (.loc 8) (.nil))))) (.cons (.tup (.cons (.tup (.cons (.k (.int 1)) (.cons (.neg (.k (.int 1))) (.cons (.neg (.k (.int 1))) (.cons (.neg (.k (.int 1))) (.nil)))))) (.nil))) (.nil)))) (.nil))))))) (.seq (.asg (.v 10) (.bin false .add (.loc 10) (.lst false (.cons (.tup (.cons (.tup (.cons (.k (.str [105, 102])) (.cons (.tup (.cons (.k (.str [105, 110])) (.cons (.k (.int 3)) (.nil)))) (.cons (.tup (.cons (.k (.str [100, 114, 111, 112])) (.nil))) (.cons (.tup (.cons (.k (.str [116, 104, 101, 110])) (.cons (.tup (.cons (.k (.str [115, 101, 116])) (.cons (.k (.str [102, 114, 111, 109])) (.cons (.k (.int 0)) (.nil))))) (.cons (.loc 8) (.nil))))) (.nil)))))) (.cons (.tup (.cons (.tup (.cons (.k (.int 1)) (.cons (.k (.int 0)) (.cons (.neg (.k (.int 1))) (.cons (.neg (.k (.int 1))) (.nil)))))) (.nil))) (.nil)))) (.cons (.tup (.cons (.tup (.cons (.k (.str [116, 104, 101, 110])) (.cons (.tup (.cons (.k (.str [100, 114, 111, 112])) (.nil))) (.cons (.loc 8) (.nil))))) (.cons (.tup (.nil)) (.nil)))) (.cons (.tup (.cons (.tup (.cons (.k (.str [116, 104, 101, 110])) (.cons (.loc 8) (.cons (.tup (.cons (.k (.str [100, 114, 111, 112])) (.nil))) (.nil))))) (.cons (.tup (.nil)) (.nil)))) (.nil))))))) (.seq (.asg (.v 10) (.bin false .add (.loc 10) (.lst false (.cons (.tup (.cons (.tup (.cons (.k (.str [116, 104, 101, 110])) (.cons (.tup (.cons (.k (.str [115, 101, 116])) (.cons (.k (.str [109, 97, 114, 107])) (.cons (.k (.int 3)) (.nil))))) (.cons (.loc 8) (.nil))))) (.cons (.tup (.cons (.tup (.cons (.k (.int 1)) (.cons (.neg (.k (.int 1))) (.cons (.neg (.k (.int 1))) (.cons (.k (.int 3)) (.nil)))))) (.nil))) (.nil)))) (.cons (.tup (.cons (.tup (.cons (.k (.str [105, 102])) (.cons (.loc 9) (.cons (.loc 8) (.cons (.tup (.cons (.k (.str [100, 114, 111, 112])) (.nil))) (.nil)))))) (.cons (.tup (.cons (.tup (.cons (.k (.int 1)) (.cons (.neg (.k (.int 1))) (.cons (.neg (.k (.int 1))) (.cons (.neg (.k (.int 1))) (.nil)))))) (.nil))) (.nil)))) (.cons (.tup (.cons (.tup (.cons (.k (.str [112, 97, 115, 115])) (.nil))) (.cons (.tup (.nil)) (.nil)))) (.nil))))))) (.seq (.ite (.or (.cmp .ne (.comp false [13] (.v 13) (.bin false .add (.sl (.loc 10) (.k .non) (.k (.int 2))) (.sl (.loc 10) (.k (.int 2)) (.k (.int 12)))) (.cmp .ne (.call 25 (.cons (.ix (.loc 13) (.k (.int 0))) (.cons (.k (.int 0)) (.cons (.k (.int 64)) (.nil))))) (.ix (.loc 13) (.k (.int 1)))) (.loc 13)) (.lst false (.nil))) (.cmp .ne (.comp false [13] (.v 13) (.sl (.loc 10) (.k (.int 12)) (.k .non)) (.cmp .ne (.call 25 (.cons (.ix (.loc 13) (.k (.int 0))) (.cons (.k (.int 0)) (.cons (.k (.int 75)) (.nil))))) (.ix (.loc 13) (.k (.int 1)))) (.loc 13)) (.lst false (.nil)))) (.ret (.k (.bl false))) (.skip)) (.seq (.asg (.v 11) (.comp false [13] (.v 13) (.tup (.cons (.tup (.cons (.k (.str [105, 110])) (.cons (.k (.int 1)) (.nil)))) (.cons (.tup (.cons (.k (.str [105, 110])) (.cons (.k (.int 0)) (.nil)))) (.cons (.loc 9) (.cons (.tup (.cons (.k (.str [102, 105, 101, 108, 100])) (.cons (.k (.str [109, 97, 114, 107])) (.cons (.k (.int 0)) (.cons (.k (.int 2)) (.nil)))))) (.cons (.tup (.cons (.k (.str [110, 111, 116])) (.cons (.tup (.cons (.k (.str [97, 110, 121])) (.nil))) (.nil)))) (.cons (.tup (.cons (.k (.str [97, 110, 100])) (.cons (.loc 9) (.cons (.tup (.cons (.k (.str [105, 110])) (.cons (.k (.int 1)) (.nil)))) (.nil))))) (.cons (.tup (.cons (.k (.str [111, 114])) (.cons (.tup (.cons (.k (.str [105, 110])) (.cons (.k (.int 2)) (.nil)))) (.cons (.tup (.cons (.k (.str [102, 105, 101, 108, 100])) (.cons (.k (.str [102, 114, 111, 109])) (.cons (.k (.int 0)) (.cons (.k (.int 0)) (.nil)))))) (.nil))))) (.nil))))))))) (.k (.bl true)) (.call 24 (.cons (.loc 13) (.cons (.k (.int 75)) (.nil)))))) (.seq (.ite (.cmp .ne (.loc 11) (.lst false (.cons (.k (.bl true)) (.cons (.k (.bl false)) (.cons (.k (.bl true)) (.cons (.k (.bl false)) (.cons (.k (.bl false)) (.cons (.k (.bl true)) (.cons (.k (.bl true)) (.nil)))))))))) (.ret (.k (.bl false))) (.skip)) (.seq (.asg (.v 12) (.comp false [14] (.v 14) (.tup (.cons (.k (.non)) (.cons (.tup (.cons (.k (.str [97, 110, 121])) (.nil))) (.cons (.tup (.cons (.k (.str [111, 117, 116])) (.cons (.k (.int 4)) (.nil)))) (.nil))))) (.k (.bl true)) (.tell w0 a0 (.call 25 (.cons (.loc 14) (.cons (.k (.non)) (.cons (.k (.non)) (.nil)))))))) (.seq (.asg (.v 12) (.bin false .add (.loc 12) (.comp false [14] (.v 14) (.tup (.cons (.k (.int 4)) (.cons (.neg (.k (.int 1))) (.cons (.k (.non)) (.cons (.k (.bl true)) (.nil)))))) (.k (.bl true)) (.tell w0 a0 (.call 25 (.cons (.loc 8) (.cons (.loc 14) (.cons (.k (.non)) (.nil))))))))) (.seq (.asg (.v 12) (.bin false .add (.loc 12) (.comp false [14] (.v 14) (.tup (.cons (.k (.int 256)) (.cons (.neg (.k (.int 1))) (.cons (.k (.non)) (.nil))))) (.k (.bl true)) (.tell w0 a0 (.call 25 (.cons (.loc 8) (.cons (.k (.int 0)) (.cons (.loc 14) (.nil))))))))) (.seq (.asg (.v 12) (.bin false .add (.loc 12) (.comp false [14] (.v 14) (.tup (.cons (.k (.non)) (.cons (.loc 8) (.nil)))) (.k (.bl true)) (.tell w0 a0 (.call 24 (.cons (.loc 14) (.cons (.k (.non)) (.nil)))))))) (.seq (.asg (.v 12) (.bin false .add (.loc 12) (.comp false [14] (.v 14) (.tup (.cons (.k (.int 256)) (.cons (.k (.non)) (.nil)))) (.k (.bl true)) (.tell w0 a0 (.call 24 (.cons (.loc 9) (.cons (.loc 14) (.nil)))))))) (.ret (.cmp .eq (.loc 12) (.bin false .add (.bin false .add (.bin false .add (.bin false .mul (.lst false (.cons (.k (.str [112, 111, 108, 105, 99, 121])) (.nil))) (.k (.int 3))) (.bin false .mul (.lst false (.cons (.k (.str [110, 117, 109, 98, 101, 114])) (.nil))) (.k (.int 7)))) (.bin false .mul (.lst false (.cons (.k (.str [116, 101, 115, 116])) (.nil))) (.k (.int 2)))) (.bin false .mul (.lst false (.cons (.k (.str [110, 117, 109, 98, 101, 114])) (.nil))) (.k (.int 2)))))))))))))))))))))))
def f35 : Fn := ⟨1, 15, b35⟩
def fns : List Fn := [f0, f1, f2, f3, f4, f5, f6, f7, f8, f9, f10, f11, f12, f13, f14, f15, f16, f17, f18, f19, f20, f21, f22, f23, f24, f25, f26, f27, f28, f29, f30, f31, f32, f33, f34, f35]
def prg : Prg := ⟨fns, con⟩
end P02
set_option maxHeartbeats 4000000
namespace P02
open Pv
def iPolLib : PolLib prg where
  InvalidNumber := 1
  is_whole := 0
  is_tuple_of := 1
  is_word_of := 2
  is_headed := 3
  is_ascending := 4
  need_number := 5
  h_is_whole := rfl
  h_is_tuple_of := rfl
  h_is_word_of := rfl
  h_is_headed := rfl
  h_is_ascending := rfl
  h_need_number := rfl
  FIELDS := 0
  HIGH := 1
  PORTS := 2
  is_field_test := 6
  test_left := 7
  h_FIELDS := rfl
  h_HIGH := rfl
  h_PORTS := rfl
  h_is_field_test := rfl
  h_test_left := rfl
  SWITCHES := 3
  HEIGHT := 8
  NODES := 7
  InvalidTest := 2
  InvalidPolicy := 3
  is_leaf := 8
  are_switches := 9
  parts_in := 10
  policy_left := 11
  fits_test := 12
  fits_policy := 13
  need_test := 14
  need_policy := 15
  h_SWITCHES := rfl
  h_HEIGHT := rfl
  h_NODES := rfl
  h_is_leaf := rfl
  h_are_switches := rfl
  h_parts_in := rfl
  h_policy_left := rfl
  h_fits_test := rfl
  h_fits_policy := rfl
  h_need_test := rfl
  h_need_policy := rfl
def iMeanLib : MeanLib prg where
  NOT := 5
  header_in := 16
  port_in := 17
  laid_on := 18
  h_NOT := rfl
  h_header_in := rfl
  h_port_in := rfl
  h_laid_on := rfl
  FIELDS := 0
  PLAIN := 6
  passes_in := 19
  put := 20
  united := 21
  cards_by := 22
  actions_in := 23
  h_FIELDS := rfl
  h_PLAIN := rfl
  h_passes_in := rfl
  h_put := rfl
  h_united := rfl
  h_cards_by := rfl
  h_actions_in := rfl
def iDrawLib : DrawLib prg where
  law_cup := 26
  law_roll := 27
  law_some := 28
  law_test := 33
  law_policy := 34
  h_law_cup := rfl
  h_law_roll := rfl
  h_law_some := rfl
  h_law_test := rfl
  h_law_policy := rfl
def iOwnLib : OwnLib prg where
  law_header := 29
  law_passes := 30
  law_cards := 31
  law_actions := 32
  h_law_header := rfl
  h_law_passes := rfl
  h_law_cards := rfl
  h_law_actions := rfl
def iActLib : ActLib prg where
  P := iPolLib
  M := iMeanLib
  ROWS := 4
  SWITCHES := 3
  passes := 24
  actions_of := 25
  h_ROWS := rfl
  h_SWITCHES := rfl
  h_passes := rfl
  h_actions_of := rfl
def lbody : S := b35.tl.hd.bod
def ltail : S := b35.tl.tl
theorem b35_eq : b35 = .seq (.asg (.v 1) (.call 26 (.cons (.loc 0) .nil))) (.seq (.for_ (.v 2) (.rng (.k (.int 5))) lbody) ltail) := rfl
theorem roll_in {n : Nat} {m : Mem} (k : Int) (h1 : 1 ≤ k) (h2 : k ≤ 1000) (c : CupM m) : ∃ (r : Int) (m' : Mem), CupM m' ∧ 0 ≤ r ∧ r ≤ k - 1 ∧ run prg (n + 1) 27 [.cell 0, .int k] m = .ok (.int r) m' := by
  obtain ⟨r, m', c', q1, q2, e⟩ := roll_ (n := n) iDrawLib.h_law_roll c (k := k) h1 h2
  exact ⟨r, m', c', q1, by omega, e⟩
def Iv (s : PV) (ρ : Env) (m : Mem) : Prop := CupM m ∧ ∃ x2 x3 x4 x5 x6, ρ = [some s, some (.cell 0), x2, x3, x4, x5, x6, none, none, none, none, none, none, none, none]
theorem turn {s x : PV} {ρ : Env} {m : Mem} (i : Iv s ρ m) : ∃ ρ' m', Iv s ρ' m' ∧ forB con (run prg 25) (.v 2) lbody x ρ m = .ok (.next, ρ') m' := by
  obtain ⟨c, x2, x3, x4, x5, x6, rfl⟩ := i
  obtain ⟨p, m1, c, okp, hp, sp, dp, e1⟩ := draw_policy iDrawLib (rest := []) 3 17 m c
  obtain ⟨t, m2, c, okt, ht, st, e2⟩ := draw_test iDrawLib (rest := []) (b := true) 2 20 m1 c
  obtain ⟨w, m3, c, w1, w2, e3⟩ := roll_in (n := 24) 4 (by omega) (by omega) c
  obtain ⟨r, m4, c, r1, r2, e4⟩ := roll_in (n := 24) 256 (by omega) (by omega) c
  have np : NPz 3 = 36 := rfl
  have nt : NT 2 = 7 := rfl
  have nc : NC p.dp ≤ 16 := NC_mono (b := 3) (by omega)
  have e1 : run prg 25 34 [.cell 0, .int 3] m = .ok p.enc m1 := e1
  have e2 : run prg 25 33 [.cell 0, .int 2, .bl true] m1 = .ok t.enc m2 := e2
  have e3 : run prg 25 27 [.cell 0, .int 4] m2 = .ok (.int w) m3 := e3
  have e4 : run prg 25 27 [.cell 0, .int 256] m3 = .ok (.int r) m4 := e4
  have f1 : ∀ m, run prg 25 25 [p.enc, .int w, .int r] m = .ok (actsV p w r) m := fun m => actions_of_ iActLib okp (by omega) (by omega) (by omega) w1 (by omega) r1 (by omega) 6 m
  have f2 : ∀ m, run prg 25 32 [p.enc, .int w, .int r] m = .ok (actsV p w r) m := fun m => by
    have := lawactions_ iOwnLib p okp (by omega) w r (21 - p.ht) m
    rwa [show 21 - p.ht + p.ht + 4 = 25 by omega] at this
  have f3 : ∀ m, run prg 25 24 [t.enc, .int r] m = .ok (.bl (t.says (r / 16 % 4) (r / 4 % 4) (r % 4) (r / 64))) m := fun m => passes_ iActLib okt (by omega) (by omega) r1 (by omega) 6 m
  have f4 : ∀ m, run prg 25 29 [.int r] m = .ok (hdr (r / 16 % 4) (r / 4 % 4) (r % 4)) m := fun m => ownheader_ iOwnLib (n := 24)
  have f5 : ∀ m, run prg 25 30 [t.enc, hdr (r / 16 % 4) (r / 4 % 4) (r % 4), .int (r / 64)] m = .ok (.bl (t.says (r / 16 % 4) (r / 4 % 4) (r % 4) (r / 64))) m := fun m => by
    have := own_says iOwnLib (a := r / 16 % 4) (b := r / 4 % 4) (c := r % 4) (p := r / 64) t okt (25 - t.ht) m
    rwa [show 25 - t.ht + t.ht = 25 by omega] at this
  have key : ∀ x2, evS con (run prg 25) lbody [some s, some (.cell 0), x2, x3, x4, x5, x6, none, none, none, none, none, none, none, none] m = .ok (.next, [some s, some (.cell 0), x2, some p.enc, some t.enc, some (.int w), some (.int r), none, none, none, none, none, none, none, none]) m4 := fun x2 => by
    simp only [lbody, b35, S.tl, S.hd, S.bod]
    refine q_par (.tup [p.enc, t.enc, .int w, .int r]) (m' := m4) (by simp [x_k, x_loc, x_glo, x_bin, x_neg, x_not, x_and, x_or, x_cmp, x_cmp2, x_ite, x_nil, x_cons, x_tup, x_lst, x_ix, x_sl, x_call, x_bf, x_isi, x_rng, x_zip, x_zip3, x_enu, x_rng2, x_comp, x_dget, x_index, x_indexc, x_tell, s_skip, s_seq, s_ex, s_ret, s_asg, s_par, s_ite, s_for, thenS_next, thenS_ret, fin_ret, fin_next, ob_some, obl_bl, bnd_if, lft_if, unl, bnd_ok, bnd_no, lft_some, lft_none, e1, e2, e3, e4]) rfl ?_
    simp [x_k, x_loc, x_glo, x_bin, x_neg, x_not, x_and, x_or, x_cmp, x_cmp2, x_ite, x_nil, x_cons, x_tup, x_lst, x_ix, x_sl, x_call, x_bf, x_isi, x_rng, x_zip, x_zip3, x_enu, x_rng2, x_comp, x_dget, x_index, x_indexc, x_tell, s_skip, s_seq, s_ex, s_ret, s_asg, s_par, s_ite, s_for, thenS_next, thenS_ret, fin_ret, fin_next, ob_some, obl_bl, bnd_if, lft_if, unl, bnd_ok, bnd_no, lft_some, lft_none, f1, f2, f3, f4, f5, cmpop, actsV_eq, truth, binop, arith, vw_t, vw_l, vw_s, vw_i, vw_b, eqv_ss, eqv_ii, item_t, atI, D_non, D_bl, D_int, D_str, D_tup, D_lst, P_non, P_bl, P_int, P_str, P_tup, P_lst, P_nil, P_cons, eqM_d, isIn_t, isIn_l, asg, PV.eqv]
  exact ⟨_, m4, ⟨c, _, _, _, _, _, rfl⟩, (forB_eq (.v 2) lbody x).trans (key (some x))⟩
theorem law_of (ht : ∀ (s : PV) (x2 x3 x4 x5 x6 : Option PV) (m : Mem), bnd (evS con (run prg 25) ltail [some s, some (.cell 0), x2, x3, x4, x5, x6, none, none, none, none, none, none, none, none] m) fin = .ok (.bl true) m) (ns : List Int) (h : ns.length ≤ 63) : ∃ m, run prg 26 35 [.lst (ns.map .int)] [] = .ok (.bl true) m := by
  refine law_skel (pr := prg) (fc := 26) (nl := 13) (n := 24) (T := .seq (.for_ (.v 2) (.rng (.k (.int 5))) lbody) ltail) rfl rfl ns h fun m c => ?_
  obtain ⟨ρ, m2, ⟨c2, x2, x3, x4, x5, x6, rfl⟩, e⟩ := for_inv (I := Iv (.lst (ns.map .int))) (f := forB con (run prg 25) (.v 2) lbody) (rangeL 0 5) (ρ := [some (.lst (ns.map .int)), some (.cell 0), none, none, none, none, none, none, none, none, none, none, none, none, none]) (m := m) (fun x _ ρ m i => turn i) ⟨c, _, _, _, _, _, rfl⟩
  refine ⟨m2, ?_⟩
  have h3 := ht (.lst (ns.map .int)) x2 x3 x4 x5 x6 m2
  have e0 : evS con (run prg 25) (.for_ (.v 2) (.rng (.k (.int 5))) lbody) [some (.lst (ns.map .int)), some (.cell 0), none, none, none, none, none, none, none, none, none, none, none, none, none] m = .ok (.next, [some (.lst (ns.map .int)), some (.cell 0), x2, x3, x4, x5, x6, none, none, none, none, none, none, none, none]) m2 := by
    rw [s_for, x_rng, x_k, bnd_ok]
    exact e
  have e1 : evS con (run prg 25) (.seq (.for_ (.v 2) (.rng (.k (.int 5))) lbody) ltail) [some (.lst (ns.map .int)), some (.cell 0), none, none, none, none, none, none, none, none, none, none, none, none, none] m = evS con (run prg 25) ltail [some (.lst (ns.map .int)), some (.cell 0), x2, x3, x4, x5, x6, none, none, none, none, none, none, none, none] m2 := q_n e0 rfl
  show bnd (evS con (run prg 25) _ [some (.lst (ns.map .int)), some (.cell 0), none, none, none, none, none, none, none, none, none, none, none, none, none] m) fin = _
  rw [e1]
  exact h3
theorem tail_ok (s : PV) (x2 x3 x4 x5 x6 : Option PV) (m : Mem) : bnd (evS con (run prg 25) ltail [some s, some (.cell 0), x2, x3, x4, x5, x6, none, none, none, none, none, none, none, none] m) fin = .ok (.bl true) m := by
  kernel_rfl
end P02
set_option maxHeartbeats 4000000
namespace P02
open Pv
open PySem
abbrev top (i : Nat) : Stmt := PySem.Challenge.pw_tagrounds_k02_whole_what_policies_make.main.body.getD i (.Pass ⟨0, 0, 0, 0⟩)
abbrev d0 : Df := ⟨top 13, ["value", "low", "high"]⟩
abbrev d1 : Df := ⟨top 14, ["value", "low", "high"]⟩
abbrev d2 : Df := ⟨top 15, ["value", "words"]⟩
abbrev d3 : Df := ⟨top 16, ["value", "low", "high"]⟩
abbrev d4 : Df := ⟨top 17, ["values", "low", "high"]⟩
abbrev d5 : Df := ⟨top 18, ["value", "low", "high"]⟩
abbrev d6 : Df := ⟨top 22, ["value"]⟩
abbrev d7 : Df := ⟨top 23, ["value", "high", "many", "sort", "rest", "part"]⟩
abbrev d8 : Df := ⟨top 24, ["value"]⟩
abbrev d9 : Df := ⟨top 25, ["value", "own"]⟩
abbrev d10 : Df := ⟨top 26, ["value", "sort", "many"]⟩
abbrev d11 : Df := ⟨top 27, ["value", "high", "many", "rest", "parts", "part"]⟩
abbrev d12 : Df := ⟨top 28, ["value"]⟩
abbrev d13 : Df := ⟨top 29, ["value"]⟩
abbrev d14 : Df := ⟨top 30, ["value"]⟩
abbrev d15 : Df := ⟨top 31, ["value"]⟩
abbrev d16 : Df := ⟨top 33, ["row"]⟩
abbrev d17 : Df := ⟨top 34, ["row"]⟩
abbrev d18 : Df := ⟨top 35, ["header", "fields", "own", "one"]⟩
abbrev d19 : Df := ⟨top 37, ["test", "header", "port", "sort", "one", "other"]⟩
abbrev d20 : Df := ⟨top 38, ["triple", "at", "value"]⟩
abbrev d21 : Df := ⟨top 39, ["lots", "found", "lot", "own"]⟩
abbrev d22 : Df := ⟨top 40, ["policy", "switch", "header", "port", "card", "sort", "made", "part", "own"]⟩
abbrev d23 : Df := ⟨top 41, ["policy", "switch", "row", "made", "fields", "port"]⟩
abbrev d24 : Df := ⟨top 42, ["test", "row"]⟩
abbrev d25 : Df := ⟨top 43, ["policy", "switch", "row"]⟩
abbrev d26 : Df := ⟨top 45, ["script", "cell"]⟩
abbrev d27 : Df := ⟨top 46, ["cup", "many", "found", "deep"]⟩
abbrev d28 : Df := ⟨top 47, ["cup", "things"]⟩
abbrev d29 : Df := ⟨top 48, ["row"]⟩
abbrev d30 : Df := ⟨top 49, ["test", "header", "port", "told", "part"]⟩
abbrev d31 : Df := ⟨top 50, ["policy", "switch", "row", "card", "sort", "at", "header", "found", "part", "own", "one"]⟩
abbrev d32 : Df := ⟨top 51, ["policy", "switch", "row", "cards", "fields", "port"]⟩
abbrev d33 : Df := ⟨top 52, ["cup", "deep", "ports", "way", "low"]⟩
abbrev d34 : Df := ⟨top 53, ["cup", "deep", "way"]⟩
abbrev d35 : Df := ⟨top 55, ["script", "cup", "turn", "policy", "test", "switch", "row", "set_to", "out", "is_two", "rows", "told", "words", "own", "odd"]⟩
def ds : List Df := [d0, d1, d2, d3, d4, d5, d6, d7, d8, d9, d10, d11, d12, d13, d14, d15, d16, d17, d18, d19, d20, d21, d22, d23, d24, d25, d26, d27, d28, d29, d30, d31, d32, d33, d34, d35]
def fx : List Str := "is_whole" :: "is_tuple_of" :: "is_word_of" :: "is_headed" :: "is_ascending" :: "need_number" :: "is_field_test" :: "test_left" :: "is_leaf" :: "are_switches" :: "parts_in" :: "policy_left" :: "fits_test" :: "fits_policy" :: "need_test" :: "need_policy" :: "header_in" :: "port_in" :: "laid_on" :: "passes_in" :: "put" :: "united" :: "cards_by" :: "actions_in" :: "passes" :: "actions_of" :: "_law_cup" :: "_law_roll" :: "_law_some" :: "_law_header" :: "_law_passes" :: "_law_cards" :: "_law_actions" :: "_law_test" :: "_law_policy" :: "law" :: []
def cx : List Str := ["FIELDS", "HIGH", "PORTS", "SWITCHES", "ROWS", "NOT", "PLAIN", "NODES", "HEIGHT"]
def kx : List Str := ["TagError", "InvalidNumber", "InvalidTest", "InvalidPolicy"]
def bx : List Str := ["abs", "all", "bool", "int", "isinstance", "len", "list", "range", "set", "sorted", "str", "tuple", "zip"]
def loose : List Str := [Str.ofString "TagError", Str.ofString "InvalidNumber", Str.ofString "InvalidTest", Str.ofString "InvalidPolicy", Str.ofString "FIELDS", Str.ofString "HIGH", Str.ofString "PORTS", Str.ofString "SWITCHES", Str.ofString "ROWS", Str.ofString "NOT", Str.ofString "PLAIN", Str.ofString "is_whole", Str.ofString "is_tuple_of", Str.ofString "is_word_of", Str.ofString "is_headed", Str.ofString "is_ascending", Str.ofString "need_number", Str.ofString "NODES", Str.ofString "HEIGHT", Str.ofString "is_field_test", Str.ofString "test_left", Str.ofString "is_leaf", Str.ofString "are_switches", Str.ofString "parts_in", Str.ofString "policy_left", Str.ofString "fits_test", Str.ofString "fits_policy", Str.ofString "need_test", Str.ofString "need_policy", Str.ofString "header_in", Str.ofString "port_in", Str.ofString "laid_on", Str.ofString "passes_in", Str.ofString "put", Str.ofString "united", Str.ofString "cards_by", Str.ofString "actions_in", Str.ofString "passes", Str.ofString "actions_of", Str.ofString "_law_cup", Str.ofString "_law_roll", Str.ofString "_law_some", Str.ofString "_law_header", Str.ofString "_law_passes", Str.ofString "_law_cards", Str.ofString "_law_actions", Str.ofString "_law_test", Str.ofString "_law_policy", Str.ofString "_law_error"]
def sub : List (Nat × Nat) := [(0, 0), (1, 0), (2, 0), (3, 0), (1, 1), (2, 2), (3, 3)]
def hs : List (Hl × Stmt) := [(⟨"_law_error", w0, a0⟩, top 54)]
abbrev txt : Txt := ⟨prg, ds, fx, cx, kx, bx, sub, hs⟩
end P02
namespace P02
open PySem PySem.Spec PyProof.Rows L2 Pv
theorem ok : txt.ok = true := by decide +kernel
abbrev R : PySem.W.OpenRow := PySem.W.OpenLaw.row PySem.Challenge.rw_tagrounds_k02_whole_what_policies_make
abbrev hk : PySem.W.Hook := hookC 4 txt
def ob (s : PySem.W.SharedT) : AlC := obsCG 4 txt (HandSHeadRun.getT s)
theorem ob_eq (s : PySem.W.SharedT) : ob s = hk.obs s.abs := obsCG_eq (HandSHeadRun.getT_eq s)
theorem hrun (w : World) : HandSHeadRun.RunEq R (PySem.W.view R.prog [55]) hk ob 4000 loose w := by
  intro os
  kernel_rfl
end P02
open PySem PySem.W PySem.Calls PyProof.Rows
theorem P02.holds (law : ∀ ns : List Int, ns.length ≤ 63 → ∃ m, Pv.run P02.txt.pr (25 + 1) 35 [.lst (ns.map .int)] [] = .ok (.bl true) m) : PySem.Challenge.rw_tagrounds_k02_whole_what_policies_make.Holds := by
  w_on; o_law
  refine HandSHeadRun.head_any (r := OpenLaw.row PySem.Challenge.rw_tagrounds_k02_whole_what_policies_make) (q := view (OpenLaw.row PySem.Challenge.rw_tagrounds_k02_whole_what_policies_make).prog [55]) (H := P02.hk) (ob := P02.ob) (M := 4000) (loose := P02.loose) (d := HandSHeadRun.topDef (OpenLaw.row PySem.Challenge.rw_tagrounds_k02_whole_what_policies_make).prog 55) (kwd := []) P02.ob_eq
    (by kernel_rfl) (fun s => by kernel_rfl) P02.hrun (by kernel_rfl) (by kernel_rfl) (by kernel_rfl) (by rfl) (by first | assumption | decide +kernel) (by decide +kernel) ⟨rfl, rfl, rfl, rfl, rfl, by decide +kernel⟩ ?hw ?hc
  case hw => w_witness2
  case hc =>
    refine LamX.walk_ofTsE (l := PySem.Challenge.rw_tagrounds_k02_whole_what_policies_make) (n := 63) (k := 3 * (25 + 1) + 5) (x := "script") (CX := fun _ => fun _ _ _ _ _ _ => False) rfl (by decide) (by kernel_rfl) ⟨rfl, by decide, by decide⟩ ?F (fun _ _ _ _ _ z => z)
    intro w mg fa h Y G hmg0
    obtain ⟨K, KX, hn, c⟩ := Y
    have hmg : mg ("law" : PySem.Str) = some (.ref fa) := by
      have e : (HandSHeadRun.topDef (OpenLaw.row PySem.Challenge.rw_tagrounds_k02_whole_what_policies_make).prog 55).name = ("law" : PySem.Str) := by kernel_rfl
      rw [← e]
      exact hmg0
    have e := hmg.symm.trans (He.glo_ok KX G (c.d.fact 35 (f := .glo "law") (by rfl)))
    cases e
    exact ⟨K, KX, Pv.law_fn (T := P02.txt) P02.ok hn KX G c (n := 25) (i := 35) (x := "law") (p := "script") (by rfl) (d := P02.d35) (by rfl) (as := (L2.defArgs (P02.top 55)).args) (by rfl) (by rfl) law⟩
theorem PySem.Challenge.cw_tagrounds_k02_whole_what_policies_make_holds : PySem.Challenge.rw_tagrounds_k02_whole_what_policies_make.Holds :=
  P02.holds (P02.law_of P02.tail_ok)
