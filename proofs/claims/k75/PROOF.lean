import PyProof.Rows.All
import Wide.All
import OpenK.AllK
import Wide.FinOn
import HandS.ForMost
import KE.SortData
import KE.KDictKeyed
import HandS.TupMul
import HandS.TupAny
import HandS.Deep
import HandS.Flow
import HandS.IsInst
import HandS.Conv
import HandS.Style
import KE.KRevSl
import HandS.TupLen
import HandS.Codes
import HandS.Zip
import HandS.Iter
import HandS.Comp
import KE.GoesEnum
import HandS.Small
import PySem.Challenge.RW_floorslaid_k75_whole_turn_words
set_option Elab.async false
set_option linter.all false
section
set_option linter.all false
set_option maxRecDepth 100000
/-! RE1: values as trees, a small language of expressions and statements over slots, its evaluator. -/
namespace RE
open PySem L2

/-- a value as a tree -/
inductive D where
  | non | bl (b : Bool) | int (i : Int) | str (x : List Nat)
  | tup (xs : List D) | lst (xs : List D)
  | dic (t : Bool) (kvs : List (D × D)) | set (xs : List D)
  | fn (n : Nat) | ty (t : String)
  | scr (xs : List D)
  deriving Inhabited

inductive Out (α : Type) where
  | ok (a : α) | exc (c : Nat) (p : List D) | bad
  deriving Inhabited

def Out.bind {α β : Type} (x : Out α) (f : α → Out β) : Out β := match x with
  | .ok a => f a
  | .exc c p => .exc c p
  | .bad => .bad
@[simp] theorem Out.bind_ok {α β : Type} (a : α) (f : α → Out β) : (Out.ok a).bind f = f a := rfl
@[simp] theorem Out.bind_exc {α β : Type} (c : Nat) (p : List D) (f : α → Out β) : (Out.exc c p).bind f = .exc c p := rfl
@[simp] theorem Out.bind_bad {α β : Type} (f : α → Out β) : (Out.bad : Out α).bind f = .bad := rfl
theorem Out.bind_eq_ok {α β : Type} {x : Out α} {f : α → Out β} {b : β} (h : x.bind f = .ok b) : ∃ a, x = .ok a ∧ f a = .ok b := by
  cases x with
  | ok a => exact ⟨a, rfl, h⟩
  | exc c p => cases h
  | bad => cases h
def ofO {α : Type} : Option α → Out α
  | some a => .ok a
  | none => .bad
theorem ofO_eq_ok {α : Type} {x : Option α} {a : α} (h : ofO x = .ok a) : x = some a := by
  cases x with
  | none => cases h
  | some b => cases h; rfl
def chk {α : Type} (b : Bool) (x : Out α) : Out α := match b with
  | true => x
  | false => .bad
@[simp] theorem chk_true {α : Type} (x : Out α) : chk true x = x := rfl
@[simp] theorem chk_false {α : Type} (x : Out α) : chk false x = .bad := rfl
theorem chk_eq_ok {α : Type} {b : Bool} {x : Out α} {a : α} (h : chk b x = .ok a) : b = true ∧ x = .ok a := by
  cases b with
  | false => cases h
  | true => exact ⟨rfl, h⟩

/-- what a name that is changed in place holds -/
inductive Own where
  | lst (xs : List D) | lls (xss : List (List D)) | dic (t : Bool) (kvs : List (D × D))
  deriving Inhabited
inductive Slot where
  | no | val (d : D) | own (o : Own) | lent (o : Own)
  deriving Inhabited
abbrev Env := List Slot
abbrev getS (env : Env) (i : Nat) : Slot := env.getD i .no
def Own.frz : Own → D
  | .lst xs => .lst xs
  | .lls xss => .lst (xss.map D.lst)
  | .dic t kvs => .dic t kvs

/-! ### data: equality -/
mutual
/-- == of Python -/
def eqv : D → D → Bool
  | .int i, .int j => i == j
  | .str x, .str y => x == y
  | .tup xs, .tup ys => eqvs xs ys
  | .lst xs, .lst ys => eqvs xs ys
  | .non, .non => true
  | .bl a, .bl b => a == b
  | .bl a, .int j => (if a then 1 else 0) == j
  | .int i, .bl b => i == (if b then 1 else 0)
  | _, _ => false
def eqvs : List D → List D → Bool
  | [], [] => true
  | x :: xs, y :: ys => eqv x y && eqvs xs ys
  | _, _ => false
end
/-- plain data: at most so deep, signs in their range -/
def shp : Nat → D → Bool
  | _, .non => true
  | _, .bl _ => true
  | _, .int _ => true
  | _, .str x => x.all fun c => decide (c < 1114112)
  | n + 1, .tup xs => xs.all (shp n)
  | n + 1, .lst xs => xs.all (shp n)
  | _, _ => false

def truth : D → Option Bool
  | .non => some false
  | .bl b => some b
  | .int i => some (i != 0)
  | .str x => if x.length ≤ 16777216 then some (!x.isEmpty) else none
  | .tup xs => some (!xs.isEmpty)
  | .lst xs => some (!xs.isEmpty)
  | _ => none

/-! ### operations -/
inductive Op where
  | add | sub | mul | fdiv | mod | pow | band | bor | xor | shl | shr
  | eq | ne | lt | le | gt | ge | isin | notin | isN | isntN
  | idx | get2
  | neg | inv | len | tuple | sum | abs | int | all | any | max2 | min2 | join | isi (t : String) | lenset
  | sl (lo hi : Bool) | rev
  deriving DecidableEq, Inhabited
inductive FOp where
  | cat | rep | list | sorted | sl (lo hi : Bool) | rev
  deriving DecidableEq, Inhabited

def lim : Nat := 16777216
def inLim (n : Nat) : Bool := decide (n ≤ 16777216)
def small (i : Int) : Bool := decide (-(2 ^ 64) < i ∧ i < 2 ^ 64)
def inIx (i : Int) : Bool := decide (-(2 ^ 63) ≤ i ∧ i < 2 ^ 63)
def tyOf : D → String
  | .non => "NoneType" | .bl _ => "bool" | .int _ => "int" | .str _ => "str" | .tup _ => "tuple" | .lst _ => "list" | .dic _ _ => "dict" | .set _ => "set" | .fn _ => "function" | .ty _ => "type" | .scr _ => "list"
/-- isinstance of a built-in class -/
def isiD (t : String) (d : D) : Bool := tyOf d == t || (t == "int" && tyOf d == "bool")
def lookD (kvs : List (D × D)) (k : D) : Option D := (kvs.find? fun kv => eqv kv.1 k).map (·.2)
def hasD (kvs : List (D × D)) (k : D) : Bool := kvs.any fun kv => eqv kv.1 k
def putD (kvs : List (D × D)) (k v : D) : List (D × D) := if hasD kvs k = true then kvs.map (fun kv => if eqv kv.1 k = true then (kv.1, v) else kv) else kvs ++ [(k, v)]
/-- keys of dicts: ints and texts, or tuples of these -/
def key0 : D → Bool
  | .int _ => true | .str _ => true | _ => false
def keyN : Nat → D → Bool
  | _, .non => true
  | _, .bl _ => true
  | _, .int _ => true
  | _, .str _ => true
  | n + 1, .tup xs => xs.all (keyN n)
  | _, _ => false
def keyT : D → Bool
  | .tup xs => xs.all (keyN 7)
  | _ => false
def keyOf (t : Bool) (k : D) : Bool := match t with
  | true => keyT k
  | false => key0 k
def strsOf : List D → Option (List (List Nat))
  | [] => some []
  | .str x :: r => (strsOf r).map (x :: ·)
  | _ => none
def intsOf : List D → Option (List Int)
  | [] => some []
  | .int x :: r => (intsOf r).map (x :: ·)
  | _ => none
def blsOf : List D → Option (List Bool)
  | [] => some []
  | .bl x :: r => (blsOf r).map (x :: ·)
  | _ => none
/-- different ints, in the order of their first places -/
def dedup (ns : List Int) : List Int := ns.foldl (fun acc x => if acc.any (· == x) then acc else acc ++ [x]) []
def cutD {α : Type} (xs : List α) (lo hi : Option Int) : List α := (xs.drop (HT.sIx xs.length 0 lo)).take (HT.sIx xs.length xs.length hi - HT.sIx xs.length 0 lo)
def bnds (lo hi : Bool) (ds : List D) : Option (Option Int × Option Int) := match lo, hi, ds with
  | false, false, [] => some (none, none)
  | true, false, [.int i] => some (some i, none)
  | false, true, [.int j] => some (none, some j)
  | true, true, [.int i, .int j] => some (some i, some j)
  | _, _, _ => none
def repL {α : Type} (n : Nat) (xs : List α) : List α := (List.replicate n xs).flatten

def opAdd : D → D → Out D
  | .int i, .int j => .ok (.int (i + j))
  | .str x, .str y => chk (inLim (x.length + y.length)) (.ok (.str (x ++ y)))
  | .tup xs, .tup ys => chk (inLim (xs.length + ys.length)) (.ok (.tup (xs ++ ys)))
  | .lst xs, .lst ys => chk (inLim (xs.length + ys.length)) (.ok (.lst (xs ++ ys)))
  | _, _ => .bad
def opMul : D → D → Out D
  | .int i, .int j => chk (small i || small j) (.ok (.int (i * j)))
  | .str x, .int k => chk (inIx k && inLim (x.length * k.toNat)) (.ok (.str (repL k.toNat x)))
  | .tup xs, .int k => chk (!xs.isEmpty && decide (1 ≤ k ∧ k ≤ 1000 ∧ xs.length ≤ 1000)) (.ok (.tup (repL k.toNat xs)))
  | .lst xs, .int k => chk (inIx k && inLim (xs.length * k.toNat)) (.ok (.lst (repL k.toNat xs)))
  | _, _ => .bad
/-- two ints -/
def op2I (f : Int → Int → Out D) : D → D → Out D
  | .int i, .int j => f i j
  | _, _ => .bad
def op1I (f : Int → Out D) : D → Out D
  | .int i => f i
  | _ => .bad
def pow2ok (i j : Int) : Bool := decide (0 ≤ j ∧ j ≤ 1000000 ∧ i.natAbs < 2 ^ 64)
def opEq (neg : Bool) (a b : D) : Out D := chk (shp 64 a && shp 64 b) (.ok (.bl (neg != eqv a b)))
/-- x in y -/
def opIn (neg : Bool) : D → D → Out D
  | .str x, .str z => match x with
    | [c] => .ok (.bl (neg != z.contains c))
    | _ => .bad
  | x, .lst ys => chk (shp 64 x && ys.all (shp 63)) (.ok (.bl (neg != ys.any fun y => eqv y x)))
  | x, .tup ys => chk (shp 64 x && ys.all (shp 63)) (.ok (.bl (neg != ys.any fun y => eqv y x)))
  | x, .dic t kvs => chk (keyOf t x) (.ok (.bl (neg != hasD kvs x)))
  | _, _ => .bad
def opIdx : D → D → Out D
  | .lst xs, .int i => ofO (atI xs i)
  | .tup xs, .int i => ofO (atI xs i)
  | .str x, .int i => chk (inLim x.length) ((ofO (atI x i)).bind fun c => .ok (.str [c]))
  | .dic t kvs, k => chk (keyOf t k) (ofO (lookD kvs k))
  | _, _ => .bad
def opGet2 : D → D → D → Out D
  | .dic t kvs, k, x => chk (keyOf t k) (.ok ((lookD kvs k).getD x))
  | _, _, _ => .bad
def opLen : D → Out D
  | .lst xs => .ok (.int xs.length)
  | .tup xs => .ok (.int xs.length)
  | .str x => chk (inLim x.length) (.ok (.int x.length))
  | .dic _ kvs => .ok (.int kvs.length)
  | _ => .bad
def opTuple : D → Out D
  | .lst xs => .ok (.tup xs)
  | .tup xs => .ok (.tup xs)
  | _ => .bad
def opSum : D → Out D
  | .lst xs => (ofO (intsOf xs)).bind fun ns => .ok (.int ns.sum)
  | _ => .bad
def opBls (f : List Bool → Bool) : D → Out D
  | .lst xs => (ofO (blsOf xs)).bind fun bs => .ok (.bl (f bs))
  | _ => .bad
def joinOk (s : List Nat) (ys : List (List Nat)) : Out D := chk (inLim ((ys.map (·.length)).sum + ys.length * s.length)) (.ok (.str (TL.joinL s ys)))
def opJoin : D → D → Out D
  | .str s, .lst xs => (ofO (strsOf xs)).bind (joinOk s)
  | .str s, .tup xs => (ofO (strsOf xs)).bind (joinOk s)
  | _, _ => .bad
def isiTys : List String := ["int", "bool", "str", "tuple", "list"]
def opIsi (t : String) (a : D) : Out D := match a with
  | .scr _ => .bad
  | .fn _ => .bad
  | .ty _ => .bad
  | .set _ => .bad
  | .dic _ _ => .bad
  | a => .ok (.bl (isiD t a))
def opLenset : D → Out D
  | .lst xs => (ofO (intsOf xs)).bind fun ns => chk (decide (ns.length ≤ 4000)) (.ok (.int (dedup ns).length))
  | _ => .bad
def opSl (lo hi : Bool) (r : List D) : D → Out D
  | .tup xs => (ofO (bnds lo hi r)).bind fun b => .ok (.tup (cutD xs b.1 b.2))
  | .lst xs => (ofO (bnds lo hi r)).bind fun b => .ok (.lst (cutD xs b.1 b.2))
  | .str x => chk (inLim x.length) ((ofO (bnds lo hi r)).bind fun b => .ok (.str (cutD x b.1 b.2)))
  | _ => .bad
def opRev : D → Out D
  | .tup xs => .ok (.tup xs.reverse)
  | .lst xs => .ok (.lst xs.reverse)
  | .str x => chk (inLim x.length) (.ok (.str x.reverse))
  | _ => .bad
def isNon : D → Bool
  | .non => true
  | _ => false
def op2 : Op → D → D → Out D
  | .add => opAdd
  | .sub => op2I fun i j => .ok (.int (i - j))
  | .mul => opMul
  | .fdiv => op2I fun i j => chk (decide (0 < j ∧ j < 1073741824)) (.ok (.int (i / j)))
  | .mod => op2I fun i j => chk (decide (0 < j)) (.ok (.int (i % j)))
  | .pow => op2I fun i j => chk (pow2ok i j) (.ok (.int (i ^ j.toNat)))
  | .band => op2I fun i j => .ok (.int (Builtin.bitAnd i j))
  | .bor => op2I fun i j => .ok (.int (Builtin.bitOr i j))
  | .xor => op2I fun i j => .ok (.int (Builtin.bitXor i j))
  | .shl => op2I fun i j => chk (pow2ok i j) (.ok (.int (i * 2 ^ j.toNat)))
  | .shr => op2I fun i j => chk (decide (0 ≤ j)) (.ok (.int (i / 2 ^ j.toNat)))
  | .eq => opEq false
  | .ne => opEq true
  | .lt => op2I fun i j => .ok (.bl (decide (i < j)))
  | .le => op2I fun i j => .ok (.bl (decide (i ≤ j)))
  | .gt => op2I fun i j => .ok (.bl (decide (j < i)))
  | .ge => op2I fun i j => .ok (.bl (decide (j ≤ i)))
  | .isin => opIn false
  | .notin => opIn true
  | .idx => opIdx
  | .max2 => op2I fun i j => .ok (.int (if j > i then j else i))
  | .min2 => op2I fun i j => .ok (.int (if j < i then j else i))
  | .join => opJoin
  | _ => fun _ _ => .bad
def op1 : Op → D → Out D
  | .isN => fun a => .ok (.bl (isNon a))
  | .isntN => fun a => .ok (.bl (!isNon a))
  | .neg => op1I fun i => .ok (.int (-i))
  | .inv => op1I fun i => .ok (.int (Builtin.bitNot i))
  | .len => opLen
  | .tuple => opTuple
  | .sum => opSum
  | .abs => op1I fun i => .ok (.int (if i < 0 then -i else i))
  | .int => op1I fun i => .ok (.int i)
  | .all => opBls fun bs => bs.all id
  | .any => opBls fun bs => bs.any id
  | .isi t => opIsi t
  | .lenset => opLenset
  | .rev => opRev
  | _ => fun _ => .bad
def op : Op → List D → Out D
  | .get2, [a, b, c] => opGet2 a b c
  | .sl lo hi, a :: r => opSl lo hi r a
  | o, [a, b] => op2 o a b
  | o, [a] => op1 o a
  | _, _ => .bad

/-! ### plain data as the library's -/
mutual
def pd : D → PyData
  | .non => .none
  | .bl b => .bool b
  | .int i => .int i
  | .str x => .str ⟨x.toArray⟩
  | .tup xs => .tuple (pds xs)
  | .lst xs => .list (pds xs)
  | _ => .dict []
def pds : List D → List PyData
  | [] => []
  | x :: xs => pd x :: pds xs
end
/-- the order of sorted -/
def leD (a b : D) : Bool := !PySem.W.dataLt (pd b) (pd a)
def ins (x : D) : List D → List D
  | [] => [x]
  | y :: r => match leD x y with
    | true => x :: y :: r
    | false => y :: ins x r
/-- sorted: each item is put in from the right, ahead of the first that is not less -/
def isort : List D → List D
  | [] => []
  | x :: r => ins x (isort r)
def isTup1 : D → Bool
  | .tup (_ :: _) => true
  | _ => false
def isOth : D → Bool
  | .tup _ => false
  | .non => false
  | _ => true
def sortable (xs : List D) : Bool := inLim xs.length && xs.all (shp 64) && (xs.all isTup1 || xs.all isOth) && xs.all fun a => xs.all fun b => PySem.W.alike (pd a) (pd b)

def fCat : D → D → Out (List D)
  | .lst xs, .lst ys => chk (inLim (xs.length + ys.length)) (.ok (xs ++ ys))
  | _, _ => .bad
def fRep : D → D → Out (List D)
  | .lst xs, .int k => chk (inIx k && inLim (xs.length * k.toNat)) (.ok (repL k.toNat xs))
  | _, _ => .bad
def fList : D → Out (List D)
  | .scr xs => .ok xs
  | .lst xs => .ok xs
  | .tup xs => .ok xs
  | _ => .bad
def fSorted : D → Out (List D)
  | .lst xs => chk (sortable xs) (.ok (isort xs))
  | _ => .bad
def fSl (lo hi : Bool) (r : List D) : D → Out (List D)
  | .lst xs => (ofO (bnds lo hi r)).bind fun b => .ok (cutD xs b.1 b.2)
  | _ => .bad
def fop : FOp → List D → Out (List D)
  | .cat, [a, b] => fCat a b
  | .rep, [a, b] => fRep a b
  | .list, [a] => fList a
  | .sorted, [a] => fSorted a
  | .sl lo hi, a :: r => fSl lo hi r a
  | _, _ => .bad

/-! ### expressions without a change -/
mutual
inductive P where
  | con (d : D) | var (i : Nat) | bvar (i : Nat)
  | tup (es : Ps) | new (f : F)
  | op (o : Op) (es : Ps)
  | and (a b : P) | or (a b : P) | not (a : P)
  | ite (c a b : P)
  | chain (o o' : Op) (a b c : P)
  | call (f : Nat) (es : Ps)
  | dic (ks vs : Ps)
inductive Ps where
  | nil | cons (e : P) (r : Ps)
inductive F where
  | lst (es : Ps)
  | op (o : FOp) (es : Ps)
  | call (f : Nat) (es : Ps)
  | comp (elt cond : P) (tg : Tg) (src : It) (own : List Nat)
  | comp2 (elt cond : P) (tg : Tg) (src : It) (cond1 : P) (tg1 : Tg) (src1 : It) (own own1 : List Nat)
inductive It where
  | val (e : P) | rng (es : Ps) | enum (e : P) | zip (es : Ps) | items (e : P)
inductive Tg where
  | one (i : Nat) | many (ts : List Nat)
end

def setS (env : Env) (i : Nat) (d : D) : Env := env.set i (.val d)
def setsS (env : Env) : List Nat → List D → Option Env
  | [], [] => some env
  | i :: is, d :: ds => setsS (setS env i d) is ds
  | _, _ => none
/-- a target takes a value -/
def bindT : Tg → D → Env → Out Env
  | .one i, d, env => .ok (setS env i d)
  | .many is, .tup ds, env => ofO (setsS env is ds)
  | _, _, _ => .bad
def wipeS (env : Env) : List Nat → Env
  | [] => env
  | i :: is => (wipeS env is).set i .no
def rngL (lo : Int) (n : Nat) : List D := (List.range n).map fun (k : Nat) => .int (lo + (k : Int))
def rngStep (lo : Int) (c : Int) (n : Nat) : List D := (List.range n).map fun (k : Nat) => .int (lo + (k : Int) * c)
def rng : List D → Out (List D)
  | [.int j] => chk (decide (-(2 ^ 62) ≤ j ∧ j < 2 ^ 62)) (.ok (rngL 0 j.toNat))
  | [.int i, .int j] => chk (decide (-(2 ^ 62) ≤ i ∧ i < 2 ^ 62 ∧ -(2 ^ 62) ≤ j ∧ j < 2 ^ 62)) (.ok (rngL i (j - i).toNat))
  | _ => .bad
def itemsOf : D → Out (List D)
  | .lst xs => .ok xs
  | .tup xs => .ok xs
  | .str x => chk (inLim x.length) (.ok (x.map fun c => .str [c]))
  | _ => .bad
def enumL : Nat → List D → List D
  | _, [] => []
  | n, x :: r => .tup [.int n, x] :: enumL (n + 1) r
def zipL : List D → List D → List D
  | x :: xs, y :: ys => .tup [x, y] :: zipL xs ys
  | _, _ => []
def zipOk : D → D → Bool
  | .lst _, .lst _ => true
  | .tup _, .tup _ => true
  | _, _ => false
/-- zip's trees -/
def zipD : List D → Out (List D)
  | [x, y] => chk (zipOk x y) ((itemsOf x).bind fun xs => (itemsOf y).bind fun ys => .ok (zipL xs ys))
  | _ => .bad
def mapO {α β : Type} (f : α → Out (List β)) : List α → Out (List β)
  | [] => .ok []
  | x :: r => (f x).bind fun ys => (mapO f r).bind fun zs => .ok (ys ++ zs)
def mkDic : List D → List D → Out (List (D × D))
  | [], [] => .ok []
  | k :: ks, v :: vs => (mkDic ks vs).bind fun r => .ok ((k, v) :: r)
  | _, _ => .bad
def putAll (kvs : List (D × D)) : List (D × D) → List (D × D)
  | [] => kvs
  | (k, v) :: r => putAll (putD kvs k v) r

/-- the value that an expression lends: a changing name's content may be looked at -/
def lend : Slot → Out D
  | .val d => .ok d
  | .own (.lst xs) => .ok (.lst xs)
  | .own (.dic t kvs) => .ok (.dic t kvs)
  | .lent (.lst xs) => .ok (.lst xs)
  | .lent (.dic t kvs) => .ok (.dic t kvs)
  | _ => .bad

/-- the program's functions: a value; a change of the first argument; a fresh list -/
structure Cl where
  f : Nat → List D → Out D
  io : Nat → List D → List D → Out (D × List D)
  fr : Nat → List D → Out (List D)
section
variable (cl : Cl)
mutual
def ev : P → Env → Out D
  | .con d, _ => .ok d
  | .var i, env => match getS env i with
    | .val d => .ok d
    | _ => .bad
  | .bvar i, env => lend (getS env i)
  | .tup es, env => (evs es env).bind fun ds => .ok (.tup ds)
  | .new f, env => (evF f env).bind fun ds => .ok (.lst ds)
  | .op o es, env => (evs es env).bind fun ds => op o ds
  | .and a b, env => (ev a env).bind fun x => (ofO (truth x)).bind fun c => match c with
    | true => ev b env
    | false => .ok x
  | .or a b, env => (ev a env).bind fun x => (ofO (truth x)).bind fun c => match c with
    | true => .ok x
    | false => ev b env
  | .not a, env => (ev a env).bind fun x => (ofO (truth x)).bind fun c => .ok (.bl (!c))
  | .ite c a b, env => (ev c env).bind fun x => (ofO (truth x)).bind fun t => match t with
    | true => ev a env
    | false => ev b env
  | .chain o o' a b c, env => (ev a env).bind fun x => (ev b env).bind fun y => (op o [x, y]).bind fun z => match z with
    | .bl true => (ev c env).bind fun w => op o' [y, w]
    | .bl false => .ok (.bl false)
    | _ => .bad
  | .call f es, env => (evs es env).bind fun ds => cl.f f ds
  | .dic ks vs, env => (evs ks env).bind fun a => (evs vs env).bind fun b => (mkDic a b).bind fun kvs => chk (a.all key0 && decide (a.length ≤ 15)) (.ok (.dic false (putAll [] kvs)))
def evs : Ps → Env → Out (List D)
  | .nil, _ => .ok []
  | .cons e r, env => (ev e env).bind fun d => (evs r env).bind fun ds => .ok (d :: ds)
def evF : F → Env → Out (List D)
  | .lst es, env => evs es env
  | .op o es, env => (evs es env).bind fun ds => fop o ds
  | .call f es, env => (evs es env).bind fun ds => cl.fr f ds
  | .comp elt cond tg src own, env => (evI src env).bind fun items => chk (inLim items.length) (mapO (fun x => (bindT tg x (wipeS env own)).bind fun env1 => (ev cond env1).bind fun c => (ofO (truth c)).bind fun t => match t with
    | true => (ev elt env1).bind fun d => .ok [d]
    | false => .ok []) items)
  | .comp2 elt cond tg src cond1 tg1 src1 own own1, env => .bad
def evI : It → Env → Out (List D)
  | .val e, env => (ev e env).bind itemsOf
  | .rng es, env => (evs es env).bind rng
  | .enum e, env => (ev e env).bind fun d => (itemsOf d).bind fun xs => .ok (enumL 0 xs)
  | .zip es, env => (evs es env).bind zipD
  | .items _, _ => .bad
end
end
end RE
end

section
set_option linter.all false
set_option maxRecDepth 100000
/-! RE2: expressions that change a name's list, statements, calls. -/
namespace RE
open PySem L2

mutual
inductive M where
  | pur (p : P)
  | op (o : Op) (es : Ms)
  | tup (es : Ms)
  | lst (es : Ms)
  | ite (c : P) (a b : M)
  | not (a : M) | and (a b : M) | or (a b : M)
  | call (f : Nat) (es : Ms)
  | io (f x : Nat) (es : Ms)
  | pop (x : Nat)
  | popAt (x : Nat) (i : M)
inductive Ms where
  | nil | cons (e : M) (r : Ms)
end
inductive Rhs where
  | val (e : M) | own (f : F) | dic (t : Bool)
inductive Tgt where
  | name (i : Nat) | sub (i : Nat) (a : P) | sub2 (i : Nat) (a b : P)
inductive Src where
  | pur (s : It) | rng (es : Ms)
mutual
inductive S where
  | pass | brk | cnt | retN
  | frz (i : Nat) (s : S)
  | ret (e : M) | expr (e : M)
  | set (i : Nat) (r : Rhs)
  | setLL (i : Nat) (elt : F) (tg : Tg) (src : It) (own : List Nat)
  | unpack (is : List Nat) (e : M)
  | par (ts : List (Tgt × Rhs))
  | asg (t : Tgt) (e : M)
  | app (i : Nat) (e : M) | appF (i : Nat) (f : F)
  | ite (c : M) (a b : Ss)
  | whl (c : P) (b : Ss)
  | for (tg : Tg) (src : Src) (b : Ss)
  | raise (c : Nat)
inductive Ss where
  | nil | cons (s : S) (r : Ss)
end
/-- np parameters, n names; io: the first one's list is changed; fin: the fresh list that is returned behind the body -/
structure Fn where
  np : Nat
  n : Nat
  io : Bool
  fin : Option F
  body : Ss

def isOwn : Slot → Bool
  | .own _ => true
  | _ => false
/-- x.pop(k) -/
def popD (x : Nat) (env : Env) : D → Slot → Out (D × Env)
  | .int k, .own (.lst xs) => (ofO (ixN xs.length k)).bind fun j => (ofO xs[j]?).bind fun y => .ok (y, env.set x (.own (.lst (xs.eraseIdx j))))
  | _, _ => .bad
section
variable (cl : Cl)
mutual
def run : M → Env → Out (D × Env)
  | .pur p, env => (ev cl p env).bind fun d => .ok (d, env)
  | .op o es, env => (runs es env).bind fun (ds, env1) => (op o ds).bind fun d => .ok (d, env1)
  | .tup es, env => (runs es env).bind fun (ds, env1) => .ok (.tup ds, env1)
  | .lst es, env => (runs es env).bind fun (ds, env1) => .ok (.lst ds, env1)
  | .ite c a b, env => (ev cl c env).bind fun x => (ofO (truth x)).bind fun t => match t with
    | true => run a env
    | false => run b env
  | .not a, env => (run a env).bind fun (x, env1) => (ofO (truth x)).bind fun t => .ok (.bl (!t), env1)
  | .and a b, env => (run a env).bind fun (x, env1) => (ofO (truth x)).bind fun t => match t with
    | true => run b env1
    | false => .ok (x, env1)
  | .or a b, env => (run a env).bind fun (x, env1) => (ofO (truth x)).bind fun t => match t with
    | true => .ok (x, env1)
    | false => run b env1
  | .call f es, env => (runs es env).bind fun (ds, env1) => (cl.f f ds).bind fun d => .ok (d, env1)
  | .io f x es, env => chk (isOwn (getS env x)) ((runs es env).bind fun (ds, env1) => match getS env1 x with
    | .own (.lst xs) => (cl.io f xs ds).bind fun (d, xs') => .ok (d, env1.set x (.own (.lst xs')))
    | _ => .bad)
  | .pop x, env => match getS env x with
    | .own (.lst xs) => match xs.getLast? with
      | some d => .ok (d, env.set x (.own (.lst xs.dropLast)))
      | none => .bad
    | _ => .bad
  | .popAt x i, env => chk (isOwn (getS env x)) ((run i env).bind fun (d, env1) => popD x env1 d (getS env1 x))
def runs : Ms → Env → Out (List D × Env)
  | .nil, env => .ok ([], env)
  | .cons e r, env => (run e env).bind fun (d, env1) => (runs r env1).bind fun (ds, env2) => .ok (d :: ds, env2)
end
end
inductive Fl where
  | nx | rt (d : D) | bk | ct
def frzS (env : Env) (i : Nat) : Env := match getS env i with
  | .own o => env.set i (.val o.frz)
  | _ => env
def forL (body : Env → Out (Fl × Env)) (tg : Tg) : List D → Env → Out (Fl × Env)
  | [], env => .ok (.nx, env)
  | x :: r, env => (bindT tg x env).bind fun env1 => (body env1).bind fun (fl, env2) => match fl with
    | .nx => forL body tg r env2
    | .ct => forL body tg r env2
    | .bk => .ok (.nx, env2)
    | .rt d => .ok (.rt d, env2)
def whileL (c : Env → Out D) (body : Env → Out (Fl × Env)) : Nat → Env → Out (Fl × Env)
  | 0, _ => .bad
  | n + 1, env => (c env).bind fun x => (ofO (truth x)).bind fun t => match t with
    | false => .ok (.nx, env)
    | true => (body env).bind fun (fl, env2) => match fl with
      | .nx => whileL c body n env2
      | .ct => whileL c body n env2
      | .bk => .ok (.nx, env2)
      | .rt d => .ok (.rt d, env2)
/-- what a store puts: a value, or a list of its own -/
inductive RV where
  | val (d : D) | own (o : Own)
def slotOf : RV → Slot
  | .val d => .val d
  | .own o => .own o
def isOwnL : Slot → Bool
  | .own (.lst _) => true
  | .own (.lls _) => true
  | _ => false
def appD (i : Nat) (env : Env) (d : D) : Slot → Out (Fl × Env)
  | .own (.lst xs) => chk (inLim (xs.length + 1)) (.ok (.nx, env.set i (.own (.lst (xs ++ [d])))))
  | _ => .bad
def appFD (i : Nat) (env : Env) (ds : List D) : Slot → Out (Fl × Env)
  | .own (.lst []) => .ok (.nx, env.set i (.own (.lls [ds])))
  | .own (.lls xss) => chk (inLim (xss.length + 1)) (.ok (.nx, env.set i (.own (.lls (xss ++ [ds])))))
  | _ => .bad
section
variable (cl : Cl)
def evR : Rhs → Env → Out (RV × Env)
  | .val e, env => (run cl e env).bind fun (d, env1) => .ok (.val d, env1)
  | .own f, env => (evF cl f env).bind fun ds => .ok (.own (.lst ds), env)
  | .dic t, env => .ok (.own (.dic t []), env)
def evRs : List (Tgt × Rhs) → Env → Out (List RV × Env)
  | [], env => .ok ([], env)
  | (_, r) :: ts, env => (evR cl r env).bind fun (v, env1) => (evRs ts env1).bind fun (vs, env2) => .ok (v :: vs, env2)
def putSub (env : Env) (i : Nat) (d : D) : D → Slot → Out Env
  | .int j, .own (.lst xs) => (ofO (ixN xs.length j)).bind fun n => .ok (env.set i (.own (.lst (xs.set n d))))
  | k, .own (.dic t kvs) => chk (keyOf t k && inLim (kvs.length + 1)) (.ok (env.set i (.own (.dic t (putD kvs k d)))))
  | _, _ => .bad
def putSub2 (env : Env) (i : Nat) (d : D) : D → D → Slot → Out Env
  | .int j, .int m, .own (.lls xss) => (ofO (ixN xss.length j)).bind fun n => (ofO xss[n]?).bind fun xs => (ofO (ixN xs.length m)).bind fun q => .ok (env.set i (.own (.lls (xss.set n (xs.set q d)))))
  | _, _, _ => .bad
/-- a target takes a value -/
def store : Tgt → RV → Env → Out Env
  | .name i, v, env => .ok (env.set i (slotOf v))
  | .sub i a, .val d, env => (ev cl a env).bind fun k => putSub env i d k (getS env i)
  | .sub2 i a b, .val d, env => (ev cl a env).bind fun k => (ev cl b env).bind fun l => putSub2 env i d k l (getS env i)
  | _, _, _ => .bad
def stores : List (Tgt × Rhs) → List RV → Env → Out Env
  | [], [], env => .ok env
  | (t, _) :: ts, v :: vs, env => (store cl t v env).bind fun env1 => stores ts vs env1
  | _, _, _ => .bad
def evSrc : Src → Env → Out (List D × Env)
  | .pur s, env => (evI cl s env).bind fun ds => .ok (ds, env)
  | .rng es, env => (runs cl es env).bind fun (ds, env1) => (rng ds).bind fun xs => .ok (xs, env1)
variable (fu : Nat)
mutual
def exec : S → Env → Out (Fl × Env)
  | .pass, env => .ok (.nx, env)
  | .brk, env => .ok (.bk, env)
  | .cnt, env => .ok (.ct, env)
  | .retN, env => .ok (.rt .non, env)
  | .frz i s, env => exec s (frzS env i)
  | .ret e, env => (run cl e env).bind fun (d, env1) => .ok (.rt d, env1)
  | .expr e, env => (run cl e env).bind fun (d, env1) => .ok (.nx, env1)
  | .set i r, env => (evR cl r env).bind fun (v, env1) => .ok (.nx, env1.set i (slotOf v))
  | .setLL i elt tg src own, env => (evI cl src env).bind fun items => chk (inLim items.length) ((mapO (fun x => (bindT tg x (wipeS env own)).bind fun env1 => (evF cl elt env1).bind fun ds => .ok [ds]) items).bind fun xss => .ok (.nx, env.set i (.own (.lls xss))))
  | .unpack is e, env => (run cl e env).bind fun (d, env1) => (bindT (.many is) d env1).bind fun env2 => .ok (.nx, env2)
  | .par ts, env => (evRs cl ts env).bind fun (vs, env1) => (stores cl ts vs env1).bind fun env2 => .ok (.nx, env2)
  | .asg t e, env => (run cl e env).bind fun (d, env1) => (store cl t (.val d) env1).bind fun env2 => .ok (.nx, env2)
  | .app i e, env => chk (isOwnL (getS env i)) ((run cl e env).bind fun x => appD i x.2 x.1 (getS x.2 i))
  | .appF i f, env => (evF cl f env).bind fun ds => appFD i env ds (getS env i)
  | .ite c a b, env => (run cl c env).bind fun (x, env1) => (ofO (truth x)).bind fun t => match t with
    | true => execs a env1
    | false => execs b env1
  | .whl c b, env => whileL (ev cl c) (execs b) fu env
  | .for tg src b, env => (evSrc cl src env).bind fun (xs, env1) => forL (execs b) tg xs env1
  | .raise c, _ => .exc c []
def execs : Ss → Env → Out (Fl × Env)
  | .nil, env => .ok (.nx, env)
  | .cons s r, env => (exec s env).bind fun (fl, env1) => match fl with
    | .nx => execs r env1
    | .rt d => .ok (.rt d, env1)
    | .bk => .ok (.bk, env1)
    | .ct => .ok (.ct, env1)
end
end
def entry (n : Nat) (ds : List Slot) : Env := ds ++ List.replicate (n - ds.length) .no
def resOf : Fl → Out D
  | .rt d => .ok d
  | .nx => .ok .non
  | _ => .bad
/-- what a def gives; what it leaves of its first argument's list; its fresh list -/
def callV (cl : Cl) (fu : Nat) (fn : Fn) (ds : List D) : Out D :=
  chk (fn.np == ds.length && !fn.io && fn.fin.isNone) ((execs cl fu fn.body (entry fn.n (ds.map .val))).bind fun (fl, _) => resOf fl)
def callI (cl : Cl) (fu : Nat) (fn : Fn) (xs ds : List D) : Out (D × List D) :=
  chk (fn.np == ds.length + 1 && fn.io && fn.fin.isNone) ((execs cl fu fn.body (entry fn.n (.own (.lst xs) :: ds.map .val))).bind fun (fl, env) => (resOf fl).bind fun d => match getS env 0 with
    | .own (.lst xs') => .ok (d, xs')
    | _ => .bad)
def callR (cl : Cl) (fu : Nat) (fn : Fn) (ds : List D) : Out (List D) := match fn.fin with
  | some r => chk (fn.np == ds.length && !fn.io) ((execs cl fu fn.body (entry fn.n (ds.map .val))).bind fun (fl, env) => match fl with
    | .nx => evF cl r env
    | _ => .bad)
  | none => .bad
def callF (T : List Fn) (fu : Nat) : Nat → Cl
  | 0 => ⟨fun _ _ => .bad, fun _ _ _ => .bad, fun _ _ => .bad⟩
  | n + 1 => ⟨fun f ds => match T[f]? with
      | some fn => callV (callF T fu n) fu fn ds
      | none => .bad,
    fun f xs ds => match T[f]? with
      | some fn => callI (callF T fu n) fu fn xs ds
      | none => .bad,
    fun f ds => match T[f]? with
      | some fn => callR (callF T fu n) fu fn ds
      | none => .bad⟩
end RE
end

section
set_option linter.all false
set_option maxRecDepth 100000
set_option maxHeartbeats 4000000
/-! RE3: how trees stand in the heap; the simulation. -/
namespace RE
open PySem PySem.Spec PyProof.Rows L2

/-- what the text has written: the written part, where the defs stand, the world -/
structure Rc where
  K : PySem.W.Frag
  fa : Nat → Option Addr
  w : World
def kD : Key → D
  | .inl i => .int i
  | .inr x => .str x.cps.toList

mutual
/-- a key of a dict, up to == -/
def nk : D → NestedKey
  | .int i => .num i
  | .bl b => .num (if b then 1 else 0)
  | .str x => .text ⟨x.toArray⟩
  | .tup xs => .tup (nks xs)
  | _ => .none
def nks : List D → List NestedKey
  | [] => []
  | x :: xs => nk x :: nks xs
end
/-- a dict whose keys are tuples, by its entries -/
def DkO (a : Addr) (L : List DictEntry) : HO := .ext fun h => ∃ o ep, h.get? a = some o ∧ o.ExactDict ∧ o.data = .dict L.toArray ep ∧ L.length ≤ sizeLine ∧ (a == sysModules) = false
mutual
/-- a value is a tree, over what stands in H -/
inductive Rp (R : Rc) (H : Hp) : V → D → Prop
  | non : Rp R H .non .non
  | bl (b : Bool) : Rp R H (.bl b) (.bl b)
  | int (i : Int) : Rp R H (.int i) (.int i)
  | str (x : List Nat) : Rp R H (.str ⟨x.toArray⟩) (.str x)
  | tup {a : Addr} {vs : List V} {ds : List D} : SqT R.K H a vs → RpA R H vs ds → Rp R H (.ref a) (.tup ds)
  | lst {a : Addr} {vs : List V} {ds : List D} : Rd H a (.lst vs) → RpA R H vs ds → Rp R H (.ref a) (.lst ds)
  | dK {a : Addr} {ks : List (Key × V)} {kvs : List (D × D)} : Rd H a (.dK ks) → RpK R H ks kvs → Rp R H (.ref a) (.dic false kvs)
  | dT {a : Addr} {ks : List DictEntry} {kvs : List (D × D)} : Rd H a (DkO a ks) → RpT R H ks kvs → (kvs.map fun kv => nk kv.1).Nodup → Rp R H (.ref a) (.dic true kvs)
  | fn {n : Nat} {a : Addr} : R.fa n = some a → Rp R H (.ref a) (.fn n)
  | ty (t : String) : Rp R H (.ty t) (.ty t)
  | scr {a : Addr} {vs : List V} {ds : List D} : SqL R.K H a vs → RpA R H vs ds → Rp R H (.ref a) (.scr ds)
inductive RpA (R : Rc) (H : Hp) : List V → List D → Prop
  | nil : RpA R H [] []
  | cons {v : V} {d : D} {vs : List V} {ds : List D} : Rp R H v d → RpA R H vs ds → RpA R H (v :: vs) (d :: ds)
inductive RpK (R : Rc) (H : Hp) : List (Key × V) → List (D × D) → Prop
  | nil : RpK R H [] []
  | cons {k : Key} {v : V} {d : D} {ks : List (Key × V)} {kvs : List (D × D)} : Rp R H v d → RpK R H ks kvs → RpK R H ((k, v) :: ks) ((kD k, d) :: kvs)
inductive RpT (R : Rc) (H : Hp) : List DictEntry → List (D × D) → Prop
  | nil : RpT R H [] []
  | cons {e : DictEntry} {b : Addr} {k : D} {v : V} {d : D} {ks : List DictEntry} {kvs : List (D × D)} : e.key = .ref b → Rp R H (.ref b) k → keyT k = true → e.hash = NestedKey.hash R.w (nk k) → RelV v e.val → Rp R H v d → RpT R H ks kvs → RpT R H (e :: ks) ((k, d) :: kvs)
end

/-- what stands frozen stands, or is locked just now -/
def Sub (Hf H : Hp) : Prop := ∀ a o, Hf a = some o → H a = some o ∨ (Mut (some o) ∧ ∃ o', H a = some (.frz o' o))
theorem sameSub {H H' : Hp} (h : Same H H') : Sub H H' := fun a o e => .inl (h a o e)
theorem Sub.rd {H H' : Hp} (h : Sub H H') {a : Addr} {u : HO} (r : Rd H a u) : Rd H' a u := by
  rcases r with r | ⟨o, r⟩
  · rcases h a _ r with q | ⟨_, o', q⟩
    · exact .inl q
    · exact .inr ⟨o', q⟩
  · rcases h a _ r with q | ⟨m, _⟩
    · exact .inr ⟨o, q⟩
    · exact False.elim m
theorem Sub.tup {K : PySem.W.Frag} {H H' : Hp} (h : Sub H H') {a : Addr} {xs : List V} (r : SqT K H a xs) : SqT K H' a xs := by
  rcases r with r | r
  · exact .inl (h.rd r)
  · exact .inr r
theorem Sub.trans {H H1 H2 : Hp} (a : Sub H H1) (b : Same H1 H2) : Sub H H2 := fun x o e => by
  rcases a x o e with q | ⟨m, o', q⟩
  · exact .inl (b _ _ q)
  · exact .inr ⟨m, o', b _ _ q⟩
theorem Sub.trans' {H H1 H2 : Hp} (a : Same H H1) (b : Sub H1 H2) : Sub H H2 := fun x o e => b x o (a _ _ e)
theorem Sub.none {H H1 : Hp} (a : Sub H H1) {p : Addr} (n : H1 p = Option.none) : H p = Option.none := by
  cases e : H p with
  | none => rfl
  | some o =>
    rcases a p o e with q | ⟨_, o', q⟩ <;> (rw [n] at q; cases q)

mutual
theorem Rp.sub {R : Rc} {H H' : Hp} (s : Sub H H') : ∀ {v : V} {d : D}, Rp R H v d → Rp R H' v d
  | _, _, .non => .non
  | _, _, .bl b => .bl b
  | _, _, .int i => .int i
  | _, _, .str x => .str x
  | _, _, .tup h r => .tup (s.tup h) (RpA.sub s r)
  | _, _, .lst h r => .lst (s.rd h) (RpA.sub s r)
  | _, _, .dK h r => .dK (s.rd h) (RpK.sub s r)
  | _, _, .dT h r n => .dT (s.rd h) (RpT.sub s r) n
  | _, _, .fn h => .fn h
  | _, _, .ty t => .ty t
  | _, _, .scr h r => .scr (h.elim (fun h => .inl (s.rd h)) .inr) (RpA.sub s r)
theorem RpA.sub {R : Rc} {H H' : Hp} (s : Sub H H') : ∀ {vs : List V} {ds : List D}, RpA R H vs ds → RpA R H' vs ds
  | _, _, .nil => .nil
  | _, _, .cons a b => .cons (Rp.sub s a) (RpA.sub s b)
theorem RpK.sub {R : Rc} {H H' : Hp} (s : Sub H H') : ∀ {vs : List (Key × V)} {ds : List (D × D)}, RpK R H vs ds → RpK R H' vs ds
  | _, _, .nil => .nil
  | _, _, .cons a b => .cons (Rp.sub s a) (RpK.sub s b)
theorem RpT.sub {R : Rc} {H H' : Hp} (s : Sub H H') : ∀ {vs : List DictEntry} {ds : List (D × D)}, RpT R H vs ds → RpT R H' vs ds
  | _, _, .nil => .nil
  | _, _, .cons a b c d e f g => .cons a (Rp.sub s b) c d e (Rp.sub s f) (RpT.sub s g)
end

section
variable {R : Rc} {H H' : Hp}
theorem RpA.length : ∀ {vs : List V} {ds : List D}, RpA R H vs ds → vs.length = ds.length
  | _, _, .nil => rfl
  | _, _, .cons _ b => congrArg (· + 1) b.length
theorem RpA.append : ∀ {vs us : List V} {ds es : List D}, RpA R H vs ds → RpA R H us es → RpA R H (vs ++ us) (ds ++ es)
  | _, _, _, _, .nil, h => h
  | _, _, _, _, .cons a b, h => .cons a (b.append h)
theorem RpA.get : ∀ {vs : List V} {ds : List D} {i : Nat} {d : D}, RpA R H vs ds → ds[i]? = some d → ∃ v, vs[i]? = some v ∧ Rp R H v d
  | _, _, _, _, .nil, e => by simp at e
  | _, _, 0, _, .cons a _, e => by simp at e; subst e; exact ⟨_, rfl, a⟩
  | _, _, i + 1, d, .cons _ b, e => by
    obtain ⟨v, h1, h2⟩ := b.get (i := i) (d := d) (by simpa using e)
    exact ⟨v, by simpa using h1, h2⟩
theorem RpA.get' : ∀ {vs : List V} {ds : List D} {i : Nat} {v : V}, RpA R H vs ds → vs[i]? = some v → ∃ d, ds[i]? = some d ∧ Rp R H v d
  | _, _, _, _, .nil, e => by simp at e
  | _, _, 0, _, .cons a _, e => by simp at e; subst e; exact ⟨_, rfl, a⟩
  | _, _, i + 1, v, .cons _ b, e => by
    obtain ⟨d, h1, h2⟩ := b.get' (i := i) (v := v) (by simpa using e)
    exact ⟨d, by simpa using h1, h2⟩
theorem RpA.take : ∀ {vs : List V} {ds : List D} (n : Nat), RpA R H vs ds → RpA R H (vs.take n) (ds.take n)
  | _, _, 0, _ => .nil
  | _, _, _ + 1, .nil => .nil
  | _, _, n + 1, .cons a b => .cons a (RpA.take n b)
theorem RpA.drop : ∀ {vs : List V} {ds : List D} (n : Nat), RpA R H vs ds → RpA R H (vs.drop n) (ds.drop n)
  | _, _, 0, r => r
  | _, _, _ + 1, .nil => .nil
  | _, _, n + 1, .cons _ b => RpA.drop n b
theorem RpA.set {v : V} {d : D} (r : Rp R H v d) : ∀ {vs : List V} {ds : List D} (n : Nat), RpA R H vs ds → RpA R H (vs.set n v) (ds.set n d)
  | _, _, _, .nil => .nil
  | _, _, 0, .cons _ b => .cons r b
  | _, _, n + 1, .cons a b => .cons a (RpA.set r n b)
theorem RpA.reverse : ∀ {vs : List V} {ds : List D}, RpA R H vs ds → RpA R H vs.reverse ds.reverse
  | _, _, .nil => .nil
  | _, _, .cons a b => by
    rw [List.reverse_cons, List.reverse_cons]
    exact b.reverse.append (.cons a .nil)
theorem RpA.flat : ∀ {n : Nat} {vs : List V} {ds : List D}, RpA R H vs ds → RpA R H (List.replicate n vs).flatten (List.replicate n ds).flatten
  | 0, _, _, _ => .nil
  | n + 1, _, _, r => by
    rw [List.replicate_succ, List.replicate_succ, List.flatten_cons, List.flatten_cons]
    exact r.append r.flat
theorem RpA.erase : ∀ {vs : List V} {ds : List D} (n : Nat), RpA R H vs ds → RpA R H (vs.eraseIdx n) (ds.eraseIdx n)
  | _, _, _, .nil => .nil
  | _, _, 0, .cons _ b => b
  | _, _, n + 1, .cons a b => .cons a (RpA.erase n b)
theorem RpA.dropLast {vs : List V} {ds : List D} (r : RpA R H vs ds) : RpA R H vs.dropLast ds.dropLast := by
  rw [List.dropLast_eq_take, List.dropLast_eq_take, r.length]
  exact r.take _
theorem RpA.ints : ∀ {vs : List V} {ns : List Int} {ds : List D}, RpA R H vs ds → intsOf ds = some ns → vs = ns.map V.int
  | _, ns, _, .nil, e => by cases e; rfl
  | _, ns, d :: ds, .cons a b, e => by
    cases a <;> try (simp [intsOf] at e; done)
    rename_i i
    unfold intsOf at e
    cases q : intsOf ds with
    | none => rw [q] at e; cases e
    | some m =>
      rw [q] at e
      cases e
      rw [b.ints q]
      rfl
theorem RpA.strs : ∀ {vs : List V} {ns : List (List Nat)} {ds : List D}, RpA R H vs ds → strsOf ds = some ns → vs = ns.map fun x => V.str ⟨x.toArray⟩
  | _, ns, _, .nil, e => by cases e; rfl
  | _, ns, d :: ds, .cons a b, e => by
    cases a <;> try (simp [strsOf] at e; done)
    rename_i i
    unfold strsOf at e
    cases q : strsOf ds with
    | none => rw [q] at e; cases e
    | some m =>
      rw [q] at e
      cases e
      rw [b.strs q]
      rfl
theorem RpA.bls : ∀ {vs : List V} {ns : List Bool} {ds : List D}, RpA R H vs ds → blsOf ds = some ns → vs = ns.map V.bl
  | _, ns, _, .nil, e => by cases e; rfl
  | _, ns, d :: ds, .cons a b, e => by
    cases a <;> try (simp [blsOf] at e; done)
    rename_i i
    unfold blsOf at e
    cases q : blsOf ds with
    | none => rw [q] at e; cases e
    | some m =>
      rw [q] at e
      cases e
      rw [b.bls q]
      rfl
end

/-! ### names -/
/-- what a changing name holds, at a, with the objects O of its own -/
def OwnAt (R : Rc) (Hf H : Hp) : Own → Addr → List Addr → Prop
  | .lst ds, a, O => O = [a] ∧ ∃ vs, H a = some (.lst vs) ∧ RpA R Hf vs ds
  | .lls dss, a, O => ∃ as : List Addr, O = a :: as ∧ H a = some (.lst (as.map V.ref)) ∧ Paired (fun b ds => ∃ vs, H b = some (.lst vs) ∧ RpA R Hf vs ds) as dss
  | .dic false kvs, a, O => O = [a] ∧ ∃ ks, H a = some (.dK ks) ∧ RpK R Hf ks kvs
  | .dic true kvs, a, O => O = [a] ∧ ∃ ks, H a = some (DkO a ks) ∧ RpT R Hf ks kvs ∧ (kvs.map fun kv => nk kv.1).Nodup
def SlotOk (R : Rc) (Hf H : Hp) (O : List Addr) : Slot → Option V → Prop
  | .no, _ => O = []
  | .val d, sv => O = [] ∧ ∃ v, sv = some v ∧ Rp R Hf v d
  | .own o, sv => ∃ a, sv = some (.ref a) ∧ OwnAt R Hf H o a O
  | .lent o, sv => ∃ a, sv = some (.ref a) ∧ OwnAt R Hf H o a O

structure Sim (R : Rc) (env : RE.Env) (σ : L2.St) (Hf H : Hp) (Os : Nat → List Addr) : Prop where
  len : env.length = σ.length
  sub : Sub Hf H
  slot : ∀ i s, env[i]? = some s → ∃ sv, σ[i]? = some sv ∧ SlotOk R Hf H (Os i) s sv
  out : ∀ i, env.length ≤ i → Os i = []
  dis : ∀ i j a, a ∈ Os i → a ∈ Os j → i = j
  nod : ∀ i, (Os i).Nodup
  new : ∀ i a, a ∈ Os i → Hf a = none
/-- a step: what is frozen stays; all but what W tells stands; newly frozen is what is new, or what W tells -/
structure Stp (W : Addr → Prop) (Hf H Hf' H' : Hp) : Prop where
  fr : Same Hf Hf'
  kp : ∀ b o, H b = some o → ¬ W b → H' b = some o
  nw : ∀ b, Hf b = none → Hf' b ≠ none → H b = none ∨ W b
  st : ∀ b, H b ≠ none → H' b ≠ none
end RE
end

section
set_option linter.all false
set_option maxRecDepth 100000
set_option maxHeartbeats 4000000
/-! RE4: new objects; operations by values. -/
namespace RE
open PySem PySem.Spec PyProof.Rows L2

section
variable {R : Rc} {env : RE.Env} {σ : L2.St} {Hf Hf' H H' : Hp} {Os : Nat → List Addr}
theorem same_new {p : Addr} {o : HO} (h : H p = none) : Same H (upd H p o) := fun b x e => by
  rw [upd_ne (ne_of_none e h)]
  exact e
theorem paired_imp {α β : Type} {F G : α → β → Prop} : ∀ {l : List α} {m : List β}, (∀ a ∈ l, ∀ b, F a b → G a b) → Paired F l m → Paired G l m
  | _, _, _, .nil => .nil
  | _, _, h, .cons r t => .cons (h _ List.mem_cons_self _ r) (paired_imp (fun a ha b => h a (List.mem_cons_of_mem _ ha) b) t)
theorem paired_left {α β : Type} {F : α → β → Prop} : ∀ {l : List α} {m : List β}, Paired F l m → ∀ a ∈ l, ∃ b, F a b
  | _, _, .nil, a, h => by cases h
  | _, _, .cons r t, a, h => by
    rcases List.mem_cons.mp h with e | h
    · subst e; exact ⟨_, r⟩
    · exact paired_left t a h
theorem OwnAt.mono (sf : Same Hf Hf') : ∀ {o : Own} {a : Addr} {O : List Addr}, (∀ b ∈ O, H' b = H b) → OwnAt R Hf H o a O → OwnAt R Hf' H' o a O
  | .lst ds, a, O, k, ⟨e, vs, h, r⟩ => ⟨e, vs, by rw [k a (by rw [e]; exact List.mem_cons_self)]; exact h, r.sub (sameSub sf)⟩
  | .lls dss, a, O, k, ⟨as, e, h, r⟩ => ⟨as, e, by rw [k a (by rw [e]; exact List.mem_cons_self)]; exact h, paired_imp (fun b hb ds ⟨vs, h1, h2⟩ => ⟨vs, by rw [k b (by rw [e]; exact List.mem_cons_of_mem _ hb)]; exact h1, h2.sub (sameSub sf)⟩) r⟩
  | .dic false kvs, a, O, k, ⟨e, ks, h, r⟩ => ⟨e, ks, by rw [k a (by rw [e]; exact List.mem_cons_self)]; exact h, r.sub (sameSub sf)⟩
  | .dic true kvs, a, O, k, ⟨e, ks, h, r, n⟩ => ⟨e, ks, by rw [k a (by rw [e]; exact List.mem_cons_self)]; exact h, r.sub (sameSub sf), n⟩
theorem OwnAt.there : ∀ {o : Own} {a : Addr} {O : List Addr}, OwnAt R Hf H o a O → ∀ b ∈ O, H b ≠ none
  | .lst ds, a, O, ⟨e, vs, h, r⟩, b, hb => by rw [e] at hb; obtain rfl := List.mem_singleton.mp hb; rw [h]; exact fun z => nomatch z
  | .lls dss, a, O, ⟨as, e, h, r⟩, b, hb => by
    rw [e] at hb
    rcases List.mem_cons.mp hb with rfl | hb
    · rw [h]; exact fun z => nomatch z
    · obtain ⟨_, vs, q, _⟩ := paired_left r b hb
      rw [q]; exact fun z => nomatch z
  | .dic false kvs, a, O, ⟨e, vs, h, r⟩, b, hb => by rw [e] at hb; obtain rfl := List.mem_singleton.mp hb; rw [h]; exact fun z => nomatch z
  | .dic true kvs, a, O, ⟨e, vs, h, r⟩, b, hb => by rw [e] at hb; obtain rfl := List.mem_singleton.mp hb; rw [h]; exact fun z => nomatch z
theorem SlotOk.mono (sf : Same Hf Hf') {O : List Addr} {sv : Option V} (k : ∀ b ∈ O, H' b = H b) : ∀ {s : Slot}, SlotOk R Hf H O s sv → SlotOk R Hf' H' O s sv
  | .no, h => h
  | .val d, ⟨e, v, h1, h2⟩ => ⟨e, v, h1, h2.sub (sameSub sf)⟩
  | .own o, ⟨a, e, h⟩ => ⟨a, e, h.mono sf k⟩
  | .lent o, ⟨a, e, h⟩ => ⟨a, e, h.mono sf k⟩
theorem SlotOk.there {O : List Addr} {sv : Option V} : ∀ {s : Slot}, SlotOk R Hf H O s sv → ∀ b ∈ O, H b ≠ none
  | .no, h, b, hb => by have h : O = [] := h; rw [h] at hb; cases hb
  | .val d, ⟨e, v, h1, h2⟩, b, hb => by rw [e] at hb; cases hb
  | .own o, ⟨a, e, h⟩, b, hb => h.there b hb
  | .lent o, ⟨a, e, h⟩, b, hb => h.there b hb
theorem Sim.there (S : Sim R env σ Hf H Os) {i : Nat} {b : Addr} (hb : b ∈ Os i) : H b ≠ none := by
  by_cases hi : i < env.length
  · obtain ⟨sv, _, h⟩ := S.slot i env[i] (List.getElem?_eq_getElem hi)
    exact h.there b hb
  · rw [S.out i (by omega)] at hb
    cases hb
theorem Sim.mono (S : Sim R env σ Hf H Os) (sf : Same Hf Hf') (sub : Sub Hf' H') (k : ∀ i, ∀ b ∈ Os i, H' b = H b) (new : ∀ i a, a ∈ Os i → Hf' a = none) : Sim R env σ Hf' H' Os :=
  ⟨S.len, sub, fun i s e => let ⟨sv, e1, h⟩ := S.slot i s e; ⟨sv, e1, h.mono sf (k i)⟩, S.out, S.dis, S.nod, new⟩
/-- a new object, frozen -/
theorem Sim.alloc (S : Sim R env σ Hf H Os) {p : Addr} (o : HO) (n : H p = none) : Sim R env σ (upd Hf p o) (upd H p o) Os := by
  have nf := S.sub.none n
  refine S.mono (same_new nf) (fun a u e => ?_) (fun i b hb => ?_) (fun i a ha => ?_)
  · by_cases ha : a = p
    · subst ha
      rw [upd_same] at e ⊢
      exact .inl e
    · rw [upd_ne ha] at e ⊢
      exact S.sub a u e
  · exact upd_ne fun z => S.there hb (by rw [z]; exact n)
  · rw [upd_ne fun z => S.there ha (by rw [z]; exact n)]
    exact S.new i a ha
/-- a new object that nobody names -/
theorem Sim.allocH (S : Sim R env σ Hf H Os) {p : Addr} (o : HO) (n : H p = none) : Sim R env σ Hf (upd H p o) Os :=
  S.mono (Same.refl _) (S.sub.trans (same_new n)) (fun i b hb => upd_ne fun z => S.there hb (by rw [z]; exact n)) S.new
theorem Stp.refl (W : Addr → Prop) (Hf H : Hp) : Stp W Hf H Hf H := ⟨Same.refl _, fun _ _ e _ => e, fun _ n z => absurd n z, fun _ z => z⟩
theorem Stp.trans {W : Addr → Prop} {Hf H Hf1 H1 Hf2 H2 : Hp} (a : Stp W Hf H Hf1 H1) (b : Stp W Hf1 H1 Hf2 H2) : Stp W Hf H Hf2 H2 := by
  refine ⟨a.fr.trans b.fr, fun x o e n => b.kp x o (a.kp x o e n) n, fun x n z => ?_, fun x z => b.st x (a.st x z)⟩
  by_cases h1 : Hf1 x = none
  · rcases b.nw x h1 z with q | q
    · left
      cases e : H x with
      | none => rfl
      | some o => exact absurd q (a.st x (by rw [e]; exact fun z => nomatch z))
    · exact .inr q
  · exact a.nw x n h1
theorem Stp.weak {W W' : Addr → Prop} {Hf H Hf1 H1 : Hp} (a : Stp W Hf H Hf1 H1) (h : ∀ b, W b → W' b) : Stp W' Hf H Hf1 H1 :=
  ⟨a.fr, fun x o e n => a.kp x o e fun z => n (h x z), fun x n z => (a.nw x n z).imp id (h x), a.st⟩
theorem Stp.alloc (sub : Sub Hf H) {p : Addr} (o : HO) (n : H p = none) (W : Addr → Prop) : Stp W Hf H (upd Hf p o) (upd H p o) := by
  refine ⟨same_new (sub.none n), fun b u e _ => same_new n b u e, fun b nb z => ?_, fun b z => ?_⟩
  · by_cases hb : b = p
    · subst hb; exact .inl n
    · rw [upd_ne hb] at z; exact absurd nb z
  · by_cases hb : b = p
    · subst hb; rw [upd_same]; exact fun z => nomatch z
    · rw [upd_ne hb]; exact z
theorem Stp.allocH {p : Addr} (o : HO) (n : H p = none) (W : Addr → Prop) : Stp W Hf H Hf (upd H p o) := by
  refine ⟨Same.refl _, fun b u e _ => same_new n b u e, fun b nb z => absurd nb z, fun b z => ?_⟩
  by_cases hb : b = p
  · subst hb; rw [upd_same]; exact fun z => nomatch z
  · rw [upd_ne hb]; exact z
abbrev W0 : Addr → Prop := fun _ => False
theorem Stp.same (a : Stp W0 Hf H Hf' H') : Same H H' := fun b o e => a.kp b o e fun z => z
end

/-! ### what is lent -/
/-- a value to be looked at: its own place may be a changing name's -/
inductive Ld (R : Rc) (Hf H : Hp) : V → D → Prop
  | rp {v : V} {d : D} : Rp R Hf v d → Ld R Hf H v d
  | lst {a : Addr} {vs : List V} {ds : List D} : H a = some (.lst vs) → RpA R Hf vs ds → Ld R Hf H (.ref a) (.lst ds)
  | dK {a : Addr} {ks : List (Key × V)} {kvs : List (D × D)} : H a = some (.dK ks) → RpK R Hf ks kvs → Ld R Hf H (.ref a) (.dic false kvs)
  | dT {a : Addr} {ks : List DictEntry} {kvs : List (D × D)} : H a = some (DkO a ks) → RpT R Hf ks kvs → (kvs.map fun kv => nk kv.1).Nodup → Ld R Hf H (.ref a) (.dic true kvs)
inductive LdA (R : Rc) (Hf H : Hp) : List V → List D → Prop
  | nil : LdA R Hf H [] []
  | cons {v : V} {d : D} {vs : List V} {ds : List D} : Ld R Hf H v d → LdA R Hf H vs ds → LdA R Hf H (v :: vs) (d :: ds)
section
variable {R : Rc} {env : RE.Env} {σ : L2.St} {Hf Hf' H H' : Hp} {Os : Nat → List Addr} {v : V}
theorem Ld.mono (s : Same Hf Hf') (t : Same H H') {d : D} : Ld R Hf H v d → Ld R Hf' H' v d
  | .rp r => .rp (r.sub (sameSub s))
  | .lst h r => .lst (t _ _ h) (r.sub (sameSub s))
  | .dK h r => .dK (t _ _ h) (r.sub (sameSub s))
  | .dT h r n => .dT (t _ _ h) (r.sub (sameSub s)) n
theorem LdA.mono (s : Same Hf Hf') (t : Same H H') : ∀ {vs : List V} {ds : List D}, LdA R Hf H vs ds → LdA R Hf' H' vs ds
  | _, _, .nil => .nil
  | _, _, .cons a b => .cons (a.mono s t) (b.mono s t)
theorem RpA.lda : ∀ {vs : List V} {ds : List D}, RpA R Hf vs ds → LdA R Hf H vs ds
  | _, _, .nil => .nil
  | _, _, .cons a b => .cons (.rp a) b.lda
theorem Ld.all (s : Sub Hf H) {d : D} : Ld R Hf H v d → Rp R H v d
  | .rp r => r.sub s
  | .lst h r => .lst (.inl h) (r.sub s)
  | .dK h r => .dK (.inl h) (r.sub s)
  | .dT h r n => .dT (.inl h) (r.sub s) n
theorem Ld.non (h : Ld R Hf H v .non) : v = .non := by cases h with | rp r => cases r; rfl
theorem Ld.int {i : Int} (h : Ld R Hf H v (.int i)) : v = .int i := by cases h with | rp r => cases r; rfl
theorem Ld.bl {b : Bool} (h : Ld R Hf H v (.bl b)) : v = .bl b := by cases h with | rp r => cases r; rfl
theorem Ld.str {x : List Nat} (h : Ld R Hf H v (.str x)) : v = .str ⟨x.toArray⟩ := by cases h with | rp r => cases r; rfl
theorem Ld.tup {ds : List D} (h : Ld R Hf H v (.tup ds)) : ∃ a vs, v = .ref a ∧ SqT R.K Hf a vs ∧ RpA R Hf vs ds := by
  cases h with | rp r => cases r with | tup h r => exact ⟨_, _, rfl, h, r⟩
theorem Ld.lst' (s : Sub Hf H) {ds : List D} (h : Ld R Hf H v (.lst ds)) : ∃ a vs, v = .ref a ∧ Rd H a (.lst vs) ∧ RpA R Hf vs ds := by
  cases h with
  | rp r => cases r with | lst h r => exact ⟨_, _, rfl, s.rd h, r⟩
  | lst h r => exact ⟨_, _, rfl, .inl h, r⟩
theorem Ld.dK' (s : Sub Hf H) {kvs : List (D × D)} (h : Ld R Hf H v (.dic false kvs)) : ∃ a ks, v = .ref a ∧ Rd H a (.dK ks) ∧ RpK R Hf ks kvs := by
  cases h with
  | rp r => cases r with | dK h r => exact ⟨_, _, rfl, s.rd h, r⟩
  | dK h r => exact ⟨_, _, rfl, .inl h, r⟩
theorem Ld.dT' (s : Sub Hf H) {kvs : List (D × D)} (h : Ld R Hf H v (.dic true kvs)) : ∃ a ks, v = .ref a ∧ Rd H a (DkO a ks) ∧ RpT R Hf ks kvs ∧ (kvs.map fun kv => nk kv.1).Nodup := by
  cases h with
  | rp r => cases r with | dT h r n => exact ⟨_, _, rfl, s.rd h, r, n⟩
  | dT h r n => exact ⟨_, _, rfl, .inl h, r, n⟩
theorem LdA.one {vs : List V} {d : D} (h : LdA R Hf H vs [d]) : ∃ v, vs = [v] ∧ Ld R Hf H v d := by
  cases h with | cons a b => cases b; exact ⟨_, rfl, a⟩
theorem LdA.two {vs : List V} {d e : D} (h : LdA R Hf H vs [d, e]) : ∃ v u, vs = [v, u] ∧ Ld R Hf H v d ∧ Ld R Hf H u e := by
  cases h with | cons a b => cases b with | cons b c => cases c; exact ⟨_, _, rfl, a, b⟩
theorem LdA.three {vs : List V} {d e f : D} (h : LdA R Hf H vs [d, e, f]) : ∃ v u w, vs = [v, u, w] ∧ Ld R Hf H v d ∧ Ld R Hf H u e ∧ Ld R Hf H w f := by
  cases h with | cons a b => cases b with | cons b c => cases c with | cons c d => cases d; exact ⟨_, _, _, rfl, a, b, c⟩
end

/-! ### what comes behind -/
/-- Q holds of every value that stands for d, behind a step that changes nothing -/
def Aft (R : Rc) (env : RE.Env) (σ : L2.St) (Hf H : Hp) (Os : Nat → List Addr) (d : D) (Q : VK) : Prop :=
  ∀ v Hf' H', Sim R env σ Hf' H' Os → Stp W0 Hf H Hf' H' → Rp R Hf' v d → Q v H'
/-- .. a fresh list -/
def AftF (R : Rc) (env : RE.Env) (σ : L2.St) (Hf H : Hp) (Os : Nat → List Addr) (ds : List D) (Q : VK) : Prop :=
  ∀ p vs Hf' H', Sim R env σ Hf' H' Os → Stp W0 Hf H Hf' H' → H p = none → Hf' p = none → H' p = some (.lst vs) → RpA R Hf' vs ds → (∀ i, p ∉ Os i) → Q (.ref p) H'
section
variable {R : Rc} {env : RE.Env} {σ : L2.St} {Hf H : Hp} {Os : Nat → List Addr} {v : V} {Q : VK}
theorem Aft.flat {d : D} (S : Sim R env σ Hf H Os) (h : Aft R env σ Hf H Os d Q) (r : Rp R Hf v d) : Q v H := h v Hf H S (Stp.refl _ _ _) r
theorem Aft.newTup {ds : List D} {vs : List V} {p : Addr} (S : Sim R env σ Hf H Os) (h : Aft R env σ Hf H Os (.tup ds) Q) (r : RpA R Hf vs ds) (n : H p = none) : Q (.ref p) (upd H p (.tup vs)) :=
  h _ _ _ (S.alloc _ n) (Stp.alloc S.sub _ n _) (.tup (SqT.of upd_same) (r.sub (sameSub (same_new (S.sub.none n)))))
theorem Aft.newLst {ds : List D} {vs : List V} {p : Addr} (S : Sim R env σ Hf H Os) (h : Aft R env σ Hf H Os (.lst ds) Q) (r : RpA R Hf vs ds) (n : H p = none) : Q (.ref p) (upd H p (.lst vs)) :=
  h _ _ _ (S.alloc _ n) (Stp.alloc S.sub _ n _) (.lst (.inl upd_same) (r.sub (sameSub (same_new (S.sub.none n)))))
theorem AftF.new {ds : List D} {vs : List V} {p : Addr} (S : Sim R env σ Hf H Os) (h : AftF R env σ Hf H Os ds Q) (r : RpA R Hf vs ds) (n : H p = none) : Q (.ref p) (upd H p (.lst vs)) :=
  h p vs _ _ (S.allocH _ n) (Stp.allocH _ n _) n (S.sub.none n) upd_same r fun i hi => S.there hi n
/-- a fresh list, frozen -/
theorem Aft.ofF {ds : List D} (h : Aft R env σ Hf H Os (.lst ds) Q) : AftF R env σ Hf H Os ds Q := fun p vs Hf' H' S st n nf e r no => by
  have sf : Same Hf' (upd Hf' p (.lst vs)) := same_new nf
  refine h (.ref p) (upd Hf' p (.lst vs)) H' (S.mono sf (fun a o q => ?_) (fun _ _ _ => rfl) fun i a ha => ?_) ⟨st.fr.trans sf, st.kp, fun b nb z => ?_, st.st⟩ (.lst (.inl upd_same) (r.sub (sameSub sf)))
  · by_cases ha : a = p
    · subst ha; rw [upd_same] at q; cases q; exact .inl e
    · rw [upd_ne ha] at q; exact S.sub a o q
  · rw [upd_ne fun z => no i (by rw [← z]; exact ha)]
    exact S.new i a ha
  · by_cases hb : b = p
    · subst hb; exact .inl n
    · rw [upd_ne hb] at z
      exact st.nw b nb z
end
end RE
end

section
set_option linter.all false
set_option maxRecDepth 100000
set_option maxHeartbeats 4000000
/-! RE5: operations of two values. -/
namespace RE
open PySem PySem.Spec PyProof.Rows L2

abbrev rc (X : Cx) (fa : Nat → Option Addr) : Rc := ⟨X.K, fa, X.w⟩
def r2 (X : Cx) (fa : Nat → Option Addr) (g : D → D → Out D) : R2 := fun x y H Q => ∃ env σ Hf Os d1 d2 d, Sim (rc X fa) env σ Hf H Os ∧ Ld (rc X fa) Hf H x d1 ∧ Ld (rc X fa) Hf H y d2 ∧ g d1 d2 = .ok d ∧ Aft (rc X fa) env σ Hf H Os d Q
def r1 (X : Cx) (fa : Nat → Option Addr) (g : D → Out D) : V → Hp → VK → Prop := fun x H Q => ∃ env σ Hf Os d1 d, Sim (rc X fa) env σ Hf H Os ∧ Ld (rc X fa) Hf H x d1 ∧ g d1 = .ok d ∧ Aft (rc X fa) env σ Hf H Os d Q
theorem OpR.imp {X : Cx} {f : Value → Value → Sem Value} {r r' : R2} (h : OpR X f r) (i : ∀ x y H Q, r' x y H Q → r x y H Q) : OpR X f r' :=
  fun pins s σ H x y v u Q I rx ry q => h pins s σ H x y v u Q I rx ry (i _ _ _ _ q)
theorem UnR.imp {X : Cx} {f : Value → Sem Value} {r r' : V → Hp → VK → Prop} (h : UnR X f r) (i : ∀ x H Q, r' x H Q → r x H Q) : UnR X f r' :=
  fun pins s σ H x v Q I rx q => h pins s σ H x v Q I rx (i _ _ _ q)
theorem inLim_le {n : Nat} (h : inLim n = true) : n ≤ sizeLine := by
  have h := of_decide_eq_true h
  rw [sizeLine_eq]
  exact h

section
variable {X : Cx} {fa : Nat → Option Addr}
/-! ### lists that are there, locked or not -/
section
variable {pins : List (Addr × Obj)} {σ : L2.St} {H : Hp} {s : Shared} {l : Addr} {xs : List V}
theorem lstR (I : Inv X pins σ H s) (hH : Rd H l (.lst xs)) : xs.length ≤ sizeLine ∧ ∃ (its : List Value) (n : Nat), Vals xs its ∧ xs.length = its.length ∧ s.heap.get? l = some { cls := .type "list", data := .seq its.toArray n } := by
  obtain ⟨z, its, n, r, e⟩ := hH.ok I.hok
  exact ⟨z, its, n, r, r.length, e⟩
end
def rCatL : R2 := fun x y H Q => ∃ l b xs zs, x = .ref l ∧ y = .ref b ∧ Rd H l (.lst xs) ∧ Rd H b (.lst zs) ∧ xs.length + zs.length ≤ sizeLine ∧ ∀ p, H p = none → Q (.ref p) (upd H p (.lst (xs ++ zs)))
theorem op_catL : OpR X (binaryOp .Add) rCatL := by
  intro pins s σ H x y v u Q I rx ry h
  obtain ⟨l, b, xs, zs, rfl, rfl, hH, hB, hz, q⟩ := h
  cases rx
  cases ry
  obtain ⟨z, its, n, r, hl, e⟩ := lstR I hH
  obtain ⟨z2, its2, n2, r2, hl2, e2⟩ := lstR I hB
  refine PySem.P.add_list e e2 ?_ (by rw [List.size_toArray, List.size_toArray]; omega)
  have ea : its.toArray ++ its2.toArray = (its ++ its2).toArray := by simp
  rw [ea]
  exact ⟨.ref _, _, I.lnew (t' := s.toks) (r.append r2) (by rw [List.length_append]; omega), rfl, q _ I.fresh⟩
theorem op_addD : OpR X (binaryOp .Add) (r2 X fa opAdd) := by
  refine OpR.imp ((OpR.or op_add op_add_str).or (OpR.or op_catA op_catL)) ?_
  rintro x y H Q ⟨env, σ, Hf, Os, d1, d2, d, S, l1, l2, e, q⟩
  cases d1 <;> cases d2 <;> try (cases e; done)
  · cases e
    exact .inl (.inl ⟨_, _, l1.int, l2.int, q.flat S (.int _)⟩)
  · obtain ⟨h, e⟩ := chk_eq_ok e
    cases e
    refine .inl (.inr ⟨_, _, l1.str, l2.str, ?_, q.flat S ?_⟩)
    · simpa [Str.length] using inLim_le h
    · have e : ∀ a b : List Nat, (⟨a.toArray⟩ : Str) ++ (⟨b.toArray⟩ : Str) = ⟨(a ++ b).toArray⟩ := fun a b => by
        show (Str.mk (a.toArray ++ b.toArray)) = _
        simp
      rw [e]
      exact .str _
  · obtain ⟨h, e⟩ := chk_eq_ok e
    cases e
    obtain ⟨a, vs, rfl, ha, ra⟩ := l1.tup
    obtain ⟨b, us, rfl, hb, rb⟩ := l2.tup
    refine .inr (.inl ⟨a, b, vs, us, rfl, rfl, S.sub.tup ha, S.sub.tup hb, by rw [ra.length, rb.length]; exact inLim_le h, fun z => ?_, fun _ z => ?_, fun _ _ p n => ?_⟩)
    · subst z
      cases ra
      exact q.flat S (.tup hb rb)
    · subst z
      cases rb
      rw [List.append_nil] at q
      exact q.flat S (.tup ha ra)
    · exact q.newTup S (ra.append rb) n
  · obtain ⟨h, e⟩ := chk_eq_ok e
    cases e
    obtain ⟨a, vs, rfl, ha, ra⟩ := l1.lst' S.sub
    obtain ⟨b, us, rfl, hb, rb⟩ := l2.lst' S.sub
    exact .inr (.inr ⟨a, b, vs, us, rfl, rfl, ha, hb, by rw [ra.length, rb.length]; exact inLim_le h, fun p n => q.newLst S (ra.append rb) n⟩)

/-! ### times -/
theorem cps_rep (z : List Nat) : ∀ (m : Nat) (acc : List Nat), (List.replicate m z.toArray).foldl (· ++ ·) acc.toArray = (acc ++ (List.replicate m z).flatten).toArray
  | 0, acc => by simp
  | m + 1, acc => by
    rw [List.replicate_succ, List.foldl_cons, List.replicate_succ, List.flatten_cons]
    have : acc.toArray ++ z.toArray = (acc ++ z).toArray := by simp
    rw [this, cps_rep z m, List.append_assoc]
def rRepS : R2 := fun x y H Q => ∃ (z : List Nat) (k : Int), x = .str ⟨z.toArray⟩ ∧ y = .int k ∧ inIx k = true ∧ z.length * k.toNat ≤ sizeLine ∧ Q (.str ⟨(repL k.toNat z).toArray⟩) H
theorem op_repS : OpR X (binaryOp .Mult) rRepS := by
  intro pins s σ H x y v u Q I rx ry h
  obtain ⟨z, k, rfl, rfl, hk, hz, q⟩ := h
  obtain ⟨t, rfl⟩ := rx
  obtain ⟨t', rfl⟩ := ry
  have hk := of_decide_eq_true hk
  have hl : (⟨z.toArray⟩ : Str).length = z.length := by simp [Str.length]
  have hsz := sizeLine_eq
  have fin : EP X pins σ Q (.str ⟨(repL k.toNat z).toArray⟩ s.toks) { s with toks := s.toks + 1 } := ⟨.str _, H, I.tok _, ⟨_, rfl⟩, q⟩
  have fin' : ∀ t, EP X pins σ Q (.str ⟨(repL k.toNat z).toArray⟩ t) s := fun t => ⟨.str _, H, I, ⟨_, rfl⟩, q⟩
  refine PySem.P.mul_str (by rw [decide_eq_false (by omega), decide_eq_false (by omega)]; rfl) (fun h1 h2 => ?_) (fun h1 h2 => ?_) ?_
  · rw [hl]
    have h3 : ((z.length * k.toNat : Nat) : Int) ≤ 16777216 := by omega
    have h4 : ((z.length * k.toNat : Nat) : Int) = (z.length : Int) * k := by
      rw [Int.natCast_mul, Int.toNat_of_nonneg (by omega)]
    have h5 : (z.length : Int) ≤ (2 ^ 63 - 1) / k := by
      rw [Int.le_ediv_iff_mul_le (by omega)]
      omega
    omega
  · rw [hl]
    unfold Builtin.Str.tooLong
    exact decide_eq_false (by omega)
  · by_cases h1 : k < 1
    · rw [if_pos h1]
      have e : repL k.toNat z = [] := by
        have : k.toNat = 0 := by omega
        rw [this]
        rfl
      rw [e] at fin
      exact ⟨by decide, fin⟩
    · rw [if_neg h1]
      by_cases h2 : (k == 1 || (⟨z.toArray⟩ : Str).length == 0) = true
      · rw [if_pos h2]
        have e : repL k.toNat z = z := by
          rw [hl] at h2
          rcases Bool.or_eq_true_iff.mp h2 with h3 | h3
          · have : k = 1 := eq_of_beq h3
            subst this
            show (List.replicate 1 z).flatten = z
            simp
          · have : z = [] := List.eq_nil_of_length_eq_zero (eq_of_beq h3)
            subst this
            show (List.replicate _ ([] : List Nat)).flatten = []
            simp
        have fin' := fin' t
        rw [e] at fin'
        exact fin'
      · rw [if_neg h2]
        have e : (List.replicate k.toNat (⟨z.toArray⟩ : Str).cps).foldl (· ++ ·) #[] = (repL k.toNat z).toArray := by
          have := cps_rep z k.toNat []
          rw [List.nil_append] at this
          exact this
        rw [e]
        refine ⟨?_, fin⟩
        show (repL k.toNat z).toArray.size ≤ _
        rw [List.size_toArray]
        show (List.replicate k.toNat z).flatten.length ≤ _
        rw [PyProof.Rows.lm_len_rep_flat, Nat.mul_comm]
        exact hz

theorem tuple_mul1 (l : Addr) (items : Array Value) (n : Nat) (dd : Option Addr) (sl : Array (Option Value)) (u : Tok) :
    Meets (Builtin.«tuple.__mul__» ⟨[.ref l, .int 1 u], []⟩) (fun _ R s => s.heap.get? l = some { cls := .type "tuple", dict := dd, data := .seq items n, slots := sl } ∧ R (.ok (.ret (Value.ref l))) s) :=
  .of_wp fun prog w A R s h => by
    obtain ⟨hp, g, d, tk, os⟩ := s
    obtain ⟨hl, h⟩ := h
    have f1 := AutoSeq1.idx_int
    have c1 : (items.isEmpty || (1 : Int) == 1) = true := by simp
    wp_walk using wpAny_loadPart' hl
    repeat (first
      | (refine wpAny_ite_true (decide_eq_true (by rw [c1])) ?_; wp_walk using wpAny_loadPart' hl)
      | (refine wpAny_ite_true c1 ?_; wp_walk using wpAny_loadPart' hl))
    exact ⟨_, rfl, h⟩
def rRepT1 (K : PySem.W.Frag) : R2 := fun x y H Q => ∃ l xs, x = .ref l ∧ y = .int 1 ∧ SqT K H l xs ∧ Q (.ref l) H
theorem op_repT1 : OpR X (binaryOp .Mult) (rRepT1 X.K) := by
  intro pins s σ H x y v u Q I rx ry h
  obtain ⟨l, xs, rfl, rfl, hT, q⟩ := h
  cases rx
  obtain ⟨t, rfl⟩ := ry
  obtain ⟨its, r, ⟨⟨cls, dd, data, sl⟩, ho, hc, n, hd⟩, hs⟩ := I.tuple hT
  simp only at hc hd
  subst hc hd
  exact wpAny_binaryOp_repeat_ref (T := "tuple") (U := "int") (by decide) ⟨_, ho, rfl⟩ (fun s' => typeIs_int s' 1 t) noFill_tuple_mul F.fills_int_mul F.slot_int_rmul repeat_tuple F.slot_int_index.lookup
    (call_meets F.slot_int_rmul (typeIs_int s 1 t) F.entry_int_rmul (F.args_int_rmul_2 _ _) (int_rmul_tuple 1 t l its.toArray n dd sl)
      ⟨ho, rfl, ⟨_, ho, rfl⟩, call_meets F.slot_tuple_mul ⟨_, ho, rfl⟩ F.entry_tuple_mul (F.args_tuple_mul_2 _ _) (tuple_mul1 l its.toArray n dd sl t) ⟨ho, ⟨.ref l, H, I, rfl, q⟩⟩⟩)

theorem rep_arr (its : List Value) : ∀ (m : Nat) (acc : List Value), (List.replicate m its.toArray).foldl (fun x1 x2 => x1 ++ x2) acc.toArray = (acc ++ (List.replicate m its).flatten).toArray
  | 0, acc => by simp
  | m + 1, acc => by
    rw [List.replicate_succ, List.foldl_cons, List.replicate_succ, List.flatten_cons]
    have q : acc.toArray ++ its.toArray = (acc ++ its).toArray := by simp
    rw [q, rep_arr its m, List.append_assoc]
def rRepL : R2 := fun x y H Q => ∃ l k xs, x = .ref l ∧ y = .int k ∧ Rd H l (.lst xs) ∧ inIx k = true ∧ xs.length * k.toNat ≤ sizeLine ∧ ∀ p, H p = none → Q (.ref p) (upd H p (.lst (repL k.toNat xs)))
theorem op_repL : OpR X (binaryOp .Mult) rRepL := by
  intro pins s σ H x y v u Q I rx ry h
  obtain ⟨l, k, xs, rfl, rfl, hH, hk, hz, q⟩ := h
  have hk := of_decide_eq_true hk
  cases rx
  obtain ⟨t, rfl⟩ := ry
  obtain ⟨z, its, n, r, hl, e⟩ := lstR I hH
  have hlen : its.toArray.size * k.toNat ≤ sizeLine := by rw [List.size_toArray, ← hl]; exact hz
  have cap : ¬ its.toArray.size * k.toNat > (2 ^ 63 - 1) / 8 := by
    have : (sizeLine : Nat) ≤ (2 ^ 63 - 1) / 8 := by decide
    omega
  have fit : ¬ (!Builtin.List.listFitsIndex k) = true := by rw [fitsIndex_both hk.1 hk.2]; exact Bool.false_ne_true
  have long : ¬ Builtin.List.listTooLong (its.toArray.size * k.toNat) = true := by rw [notLongL hlen]; exact Bool.false_ne_true
  have hnew : List.foldl (fun x1 x2 => x1 ++ x2) #[] (List.replicate (if its.toArray.isEmpty = true then 0 else k.toNat) its.toArray) = (repL k.toNat its).toArray := by
    have f0 : ∀ m : Nat, List.foldl (fun x1 x2 => x1 ++ x2) #[] (List.replicate m its.toArray) = (repL m its).toArray := fun m => by
      have := rep_arr its m []
      rw [List.nil_append] at this
      exact this
    rw [f0]
    cases its with
    | nil => simp [repL]
    | cons a r' => rw [if_neg (by simp)]
  refine wpAny_binaryOp_repeat_ref (T := "list") (U := "int") (by decide) ⟨_, e, rfl⟩ (fun s' => typeIs_int s' k t) noFill_list_mul F.fills_int_mul F.slot_int_rmul repeat_list F.slot_int_index.lookup
    (call_meets F.slot_int_rmul (typeIs_int s k t) F.entry_int_rmul (F.args_int_rmul_2 _ _) (int___rmul___int_list k t l its.toArray n) ⟨e, rfl, ⟨_, e, rfl⟩, ?_⟩)
  refine call_meets F.slot_list_mul ⟨_, e, rfl⟩ F.entry_list_mul (F.args_list_mul_2 _ _) (AutoListH.list___mul___list_int_3 l its.toArray n k t fit cap long) ⟨e, ?_⟩
  rw [hnew]
  refine ⟨.ref _, _, I.lnew (t' := s.toks) (r.rep k.toNat) ?_, rfl, q _ I.fresh⟩
  rw [PyProof.Rows.lm_len_rep_flat, Nat.mul_comm]
  exact hz
theorem small_iff {i : Int} (h : small i = true) : -(2 ^ 64) < i ∧ i < 2 ^ 64 := of_decide_eq_true h
theorem op_mulD : OpR X (binaryOp .Mult) (r2 X fa opMul) := by
  refine OpR.imp ((OpR.or op_mul op_repS).or (OpR.or op_repL (OpR.or op_repT op_repT1))) ?_
  rintro x y H Q ⟨env, σ, Hf, Os, d1, d2, d, S, l1, l2, e, q⟩
  cases d1 <;> cases d2 <;> try (cases e; done)
  · obtain ⟨h, e⟩ := chk_eq_ok e
    cases e
    refine .inl (.inl ⟨_, _, l1.int, l2.int, ?_, q.flat S (.int _)⟩)
    rcases Bool.or_eq_true_iff.mp h with h | h
    · exact .inl (small_iff h)
    · exact .inr (small_iff h)
  · obtain ⟨h, e⟩ := chk_eq_ok e
    cases e
    obtain ⟨h1, h2⟩ := Bool.and_eq_true_iff.mp h
    exact .inl (.inr ⟨_, _, l1.str, l2.int, h1, inLim_le h2, q.flat S (.str _)⟩)
  · rename_i xs k
    obtain ⟨h, e⟩ := chk_eq_ok e
    cases e
    obtain ⟨h1, h2⟩ := Bool.and_eq_true_iff.mp h
    have h2 := of_decide_eq_true h2
    obtain ⟨a, vs, rfl, ha, ra⟩ := l1.tup
    have hn : vs ≠ [] := fun z => by
      subst z
      cases ra
      cases h1
    by_cases hk : k = 1
    · subst hk
      have e1 : repL (1 : Int).toNat xs = xs := by show (List.replicate 1 xs).flatten = xs; simp
      rw [e1] at q
      exact .inr (.inr (.inr ⟨a, vs, rfl, l2.int, S.sub.tup ha, q.flat S (.tup ha ra)⟩))
    · exact .inr (.inr (.inl ⟨a, k, vs, rfl, l2.int, S.sub.tup ha, hn, by omega, by omega, by rw [ra.length]; exact h2.2.2, fun p n => q.newTup S ra.flat n⟩))
  · obtain ⟨h, e⟩ := chk_eq_ok e
    cases e
    obtain ⟨h1, h2⟩ := Bool.and_eq_true_iff.mp h
    obtain ⟨a, vs, rfl, ha, ra⟩ := l1.lst' S.sub
    exact .inr (.inl ⟨a, _, vs, rfl, l2.int, ha, h1, by rw [ra.length]; exact inLim_le h2, fun p n => q.newLst S ra.flat n⟩)

/-! ### ints -/
theorem op2_int {f : Value → Value → Sem Value} {C : Int → Int → Prop} {g : Int → Int → V} {go : Int → Int → Out D} (h : OpR X f (rI C g)) (hg : ∀ i j d, go i j = .ok d → C i j ∧ ∀ (R : Rc) (Hf : Hp), Rp R Hf (g i j) d) : OpR X f (r2 X fa (op2I go)) := by
  refine OpR.imp h ?_
  rintro x y H Q ⟨env, σ, Hf, Os, d1, d2, d, S, l1, l2, e, q⟩
  cases d1 <;> cases d2 <;> try (cases e; done)
  obtain ⟨c, r⟩ := hg _ _ _ e
  exact ⟨_, _, l1.int, l2.int, c, q.flat S (r _ _)⟩
theorem op2_int0 {f : Value → Value → Sem Value} {g : Int → Int → V} {go : Int → Int → Out D} (h : OpR X f (rI0 g)) (hg : ∀ i j d, go i j = .ok d → ∀ (R : Rc) (Hf : Hp), Rp R Hf (g i j) d) : OpR X f (r2 X fa (op2I go)) := by
  refine OpR.imp h ?_
  rintro x y H Q ⟨env, σ, Hf, Os, d1, d2, d, S, l1, l2, e, q⟩
  cases d1 <;> cases d2 <;> try (cases e; done)
  exact ⟨_, _, l1.int, l2.int, q.flat S (hg _ _ _ e _ _)⟩
theorem op_subD : OpR X (binaryOp .Sub) (r2 X fa (op2 .sub)) := op2_int0 op_sub fun _ _ _ e _ _ => by cases e; exact .int _
theorem op_fdivD : OpR X (binaryOp .FloorDiv) (r2 X fa (op2 .fdiv)) := op2_int op_fdiv fun _ _ _ e => by
  obtain ⟨h, e⟩ := chk_eq_ok e
  cases e
  have h := of_decide_eq_true h
  exact ⟨h, fun _ _ => .int _⟩
theorem op_modD : OpR X (binaryOp .Mod) (r2 X fa (op2 .mod)) := op2_int op_mod fun _ _ _ e => by
  obtain ⟨h, e⟩ := chk_eq_ok e
  cases e
  exact ⟨of_decide_eq_true h, fun _ _ => .int _⟩
theorem op_powD : OpR X (binaryOp .Pow) (r2 X fa (op2 .pow)) := op2_int op_pow fun _ _ _ e => by
  obtain ⟨h, e⟩ := chk_eq_ok e
  cases e
  have h := of_decide_eq_true h
  exact ⟨h, fun _ _ => .int _⟩
theorem op_shlD : OpR X (binaryOp .LShift) (r2 X fa (op2 .shl)) := op2_int op_shl fun _ _ _ e => by
  obtain ⟨h, e⟩ := chk_eq_ok e
  cases e
  have h := of_decide_eq_true h
  exact ⟨h, fun _ _ => .int _⟩
theorem op_shrD : OpR X (binaryOp .RShift) (r2 X fa (op2 .shr)) := op2_int op_shr fun _ _ _ e => by
  obtain ⟨h, e⟩ := chk_eq_ok e
  cases e
  exact ⟨of_decide_eq_true h, fun _ _ => .int _⟩
theorem op_bandD : OpR X (binaryOp .BitAnd) (r2 X fa (op2 .band)) := op2_int0 op_and fun _ _ _ e _ _ => by cases e; exact .int _
theorem op_borD : OpR X (binaryOp .BitOr) (r2 X fa (op2 .bor)) := op2_int0 op_or fun _ _ _ e _ _ => by cases e; exact .int _
theorem op_xorD : OpR X (binaryOp .BitXor) (r2 X fa (op2 .xor)) := op2_int0 op_xor fun _ _ _ e _ _ => by cases e; exact .int _
theorem op_ltD : OpR X (compareOp .Lt) (r2 X fa (op2 .lt)) := op2_int0 op_lt fun _ _ _ e _ _ => by cases e; exact .bl _
theorem op_leD : OpR X (compareOp .LtE) (r2 X fa (op2 .le)) := op2_int0 op_le fun _ _ _ e _ _ => by cases e; exact .bl _
theorem op_gtD : OpR X (compareOp .Gt) (r2 X fa (op2 .gt)) := op2_int0 op_gt fun _ _ _ e _ _ => by cases e; exact .bl _
theorem op_geD : OpR X (compareOp .GtE) (r2 X fa (op2 .ge)) := op2_int0 op_ge fun _ _ _ e _ _ => by cases e; exact .bl _

/-! ### data -/
mutual
theorem pd_dp {R : Rc} {H : Hp} : ∀ {v : V} {d : D} (n : Nat), shp n d = true → Rp R H v d → Dp R.K H v (pd d)
  | _, _, _, _, .non => by rw [pd]; exact .non
  | _, _, _, _, .bl b => by rw [pd]; exact .bl b
  | _, _, _, _, .int i => by rw [pd]; exact .int i
  | _, _, _, _, .str x => by rw [pd]; exact .str _
  | _, _, n + 1, h, .tup q r => by rw [pd]; exact .tup q (pd_dps n (by simpa [shp] using h) r)
  | _, _, n + 1, h, .lst q r => by rw [pd]; exact .lst (.inl q) (pd_dps n (by simpa [shp] using h) r)
  | _, _, 0, h, .tup q r => by simp [shp] at h
  | _, _, 0, h, .lst q r => by simp [shp] at h
  | _, _, n, h, .dK _ _ => by cases n <;> simp [shp] at h
  | _, _, n, h, .dT _ _ _ => by cases n <;> simp [shp] at h
  | _, _, n, h, .fn _ => by cases n <;> simp [shp] at h
  | _, _, n, h, .ty _ => by cases n <;> simp [shp] at h
  | _, _, n, h, .scr _ _ => by cases n <;> simp [shp] at h
theorem pd_dps {R : Rc} {H : Hp} : ∀ {vs : List V} {ds : List D} (n : Nat), (∀ d ∈ ds, shp n d = true) → RpA R H vs ds → DpAll R.K H vs (pds ds)
  | _, _, _, _, .nil => by rw [pds]; exact .nil
  | _, _, n, h, .cons a b => by rw [pds]; exact .cons (pd_dp n (h _ List.mem_cons_self) a) (pd_dps n (fun d hd => h d (List.mem_cons_of_mem _ hd)) b)
end
theorem strOk_of {x : List Nat} (h : x.all (fun c => decide (c < 1114112)) = true) : PyData.strOk ⟨x.toArray⟩ = true := by
  unfold PyData.strOk
  simpa using h
theorem shp_lay : ∀ (n : Nat) (d : D), shp n d = true → (pd d).canLay0 = true ∧ (pd d).depth ≤ n
  | n, .non, _ => by simp [pd, PyData.canLay0, PyData.depth]
  | n, .bl _, _ => by simp [pd, PyData.canLay0, PyData.depth]
  | n, .int _, _ => by simp [pd, PyData.canLay0, PyData.depth]
  | n, .str x, h => by
    refine ⟨?_, by simp [pd, PyData.depth]⟩
    rw [pd, PyData.canLay0]
    exact strOk_of (by cases n <;> simpa [shp] using h)
  | 0, .tup xs, h => by simp [shp] at h
  | 0, .lst xs, h => by simp [shp] at h
  | n + 1, .tup xs, h => by
    have h : ∀ x ∈ xs, shp n x = true := by simpa [shp] using h
    have all : ∀ ys : List D, (∀ x ∈ ys, shp n x = true) → PyData.canLayAll0 (pds ys) = true ∧ PyData.depthAll (pds ys) ≤ n := by
      intro ys
      induction ys with
      | nil => intro _; simp [pds, PyData.canLayAll0, PyData.depthAll]
      | cons y r ih =>
        intro hy
        obtain ⟨a1, a2⟩ := shp_lay n y (hy y List.mem_cons_self)
        obtain ⟨b1, b2⟩ := ih fun x hx => hy x (List.mem_cons_of_mem _ hx)
        rw [pds, PyData.canLayAll0, PyData.depthAll, a1, b1]
        exact ⟨rfl, Nat.max_le.mpr ⟨a2, b2⟩⟩
    obtain ⟨a, b⟩ := all xs h
    rw [pd, PyData.canLay0, PyData.depth]
    exact ⟨a, Nat.succ_le_succ b⟩
  | n + 1, .lst xs, h => by
    have h : ∀ x ∈ xs, shp n x = true := by simpa [shp] using h
    have all : ∀ ys : List D, (∀ x ∈ ys, shp n x = true) → PyData.canLayAll0 (pds ys) = true ∧ PyData.depthAll (pds ys) ≤ n := by
      intro ys
      induction ys with
      | nil => intro _; simp [pds, PyData.canLayAll0, PyData.depthAll]
      | cons y r ih =>
        intro hy
        obtain ⟨a1, a2⟩ := shp_lay n y (hy y List.mem_cons_self)
        obtain ⟨b1, b2⟩ := ih fun x hx => hy x (List.mem_cons_of_mem _ hx)
        rw [pds, PyData.canLayAll0, PyData.depthAll, a1, b1]
        exact ⟨rfl, Nat.max_le.mpr ⟨a2, b2⟩⟩
    obtain ⟨a, b⟩ := all xs h
    rw [pd, PyData.canLay0, PyData.depth]
    exact ⟨a, Nat.succ_le_succ b⟩
  | n, .dic _ _, h => by cases n <;> simp [shp] at h
  | n, .set _, h => by cases n <;> simp [shp] at h
  | n, .fn _, h => by cases n <;> simp [shp] at h
  | n, .ty _, h => by cases n <;> simp [shp] at h
  | n, .scr _, h => by cases n <;> simp [shp] at h
theorem shp_shaped {d : D} (h : shp 64 d = true) : SeqAt.shaped (pd d) = true := by
  obtain ⟨a, b⟩ := shp_lay 64 d h
  unfold SeqAt.shaped
  rw [a, decide_eq_true b]
  rfl
theorem beq_str (x y : List Nat) : ((⟨x.toArray⟩ : Str) == ⟨y.toArray⟩) = (x == y) := by
  rw [Bool.eq_iff_iff]
  simp
mutual
theorem eqv_pd : ∀ (a b : D) (n m : Nat), shp n a = true → shp m b = true → eqv a b = PyData.eqv (pd a) (pd b)
  | .int i, b, n, m, _, h => by cases b <;> first | (simp [eqv, pd, PyData.eqv]; done) | (cases m <;> simp [shp] at h)
  | .str x, b, n, m, _, h => by cases b <;> first | (simp [eqv, pd, PyData.eqv, beq_str]; done) | (cases m <;> simp [shp] at h)
  | .non, b, n, m, _, h => by cases b <;> first | (simp [eqv, pd, PyData.eqv]; done) | (cases m <;> simp [shp] at h)
  | .bl c, b, n, m, _, h => by cases b <;> first | (simp [eqv, pd, PyData.eqv]; done) | (cases m <;> simp [shp] at h)
  | .tup xs, .tup ys, n + 1, m + 1, h, h' => by
    rw [eqv, pd, pd, PyData.eqv]
    exact eqvs_pd xs ys n m (by simpa [shp] using h) (by simpa [shp] using h')
  | .lst xs, .lst ys, n + 1, m + 1, h, h' => by
    rw [eqv, pd, pd, PyData.eqv]
    exact eqvs_pd xs ys n m (by simpa [shp] using h) (by simpa [shp] using h')
  | .tup xs, .non, n, m, h, h' => by simp [eqv, pd, PyData.eqv]
  | .tup xs, .bl _, n, m, h, h' => by simp [eqv, pd, PyData.eqv]
  | .tup xs, .int _, n, m, h, h' => by simp [eqv, pd, PyData.eqv]
  | .tup xs, .str _, n, m, h, h' => by simp [eqv, pd, PyData.eqv]
  | .tup xs, .lst _, n, m, h, h' => by simp [eqv, pd, PyData.eqv]
  | .lst xs, .non, n, m, h, h' => by simp [eqv, pd, PyData.eqv]
  | .lst xs, .bl _, n, m, h, h' => by simp [eqv, pd, PyData.eqv]
  | .lst xs, .int _, n, m, h, h' => by simp [eqv, pd, PyData.eqv]
  | .lst xs, .str _, n, m, h, h' => by simp [eqv, pd, PyData.eqv]
  | .lst xs, .tup _, n, m, h, h' => by simp [eqv, pd, PyData.eqv]
  | .tup xs, .dic _ _, n, m, h, h' => by cases m <;> simp [shp] at h'
  | .tup xs, .set _, n, m, h, h' => by cases m <;> simp [shp] at h'
  | .tup xs, .fn _, n, m, h, h' => by cases m <;> simp [shp] at h'
  | .tup xs, .ty _, n, m, h, h' => by cases m <;> simp [shp] at h'
  | .tup xs, .scr _, n, m, h, h' => by cases m <;> simp [shp] at h'
  | .lst xs, .dic _ _, n, m, h, h' => by cases m <;> simp [shp] at h'
  | .lst xs, .set _, n, m, h, h' => by cases m <;> simp [shp] at h'
  | .lst xs, .fn _, n, m, h, h' => by cases m <;> simp [shp] at h'
  | .lst xs, .ty _, n, m, h, h' => by cases m <;> simp [shp] at h'
  | .lst xs, .scr _, n, m, h, h' => by cases m <;> simp [shp] at h'
  | .tup xs, .tup ys, 0, m, h, h' => by simp [shp] at h
  | .tup xs, .tup ys, n + 1, 0, h, h' => by simp [shp] at h'
  | .lst xs, .lst ys, 0, m, h, h' => by simp [shp] at h
  | .lst xs, .lst ys, n + 1, 0, h, h' => by simp [shp] at h'
  | .dic _ _, b, n, m, h, h' => by cases n <;> simp [shp] at h
  | .set _, b, n, m, h, h' => by cases n <;> simp [shp] at h
  | .fn _, b, n, m, h, h' => by cases n <;> simp [shp] at h
  | .ty _, b, n, m, h, h' => by cases n <;> simp [shp] at h
  | .scr _, b, n, m, h, h' => by cases n <;> simp [shp] at h
theorem eqvs_pd : ∀ (xs ys : List D) (n m : Nat), (∀ x ∈ xs, shp n x = true) → (∀ y ∈ ys, shp m y = true) → eqvs xs ys = PyData.eqvAll (pds xs) (pds ys)
  | [], [], _, _, _, _ => by simp [eqvs, pds, PyData.eqvAll]
  | [], _ :: _, _, _, _, _ => by simp [eqvs, pds, PyData.eqvAll]
  | _ :: _, [], _, _, _, _ => by simp [eqvs, pds, PyData.eqvAll]
  | x :: xs, y :: ys, n, m, h, h' => by
    rw [eqvs, pds, pds, PyData.eqvAll, eqv_pd x y n m (h x List.mem_cons_self) (h' y List.mem_cons_self), eqvs_pd xs ys n m (fun z hz => h z (List.mem_cons_of_mem _ hz)) fun z hz => h' z (List.mem_cons_of_mem _ hz)]
end
theorem op_eqDD (hu : X.A.units + 64 < cLine) : OpR X (compareOp .Eq) (r2 X fa (opEq false)) := by
  refine OpR.imp (op_eqD hu) ?_
  rintro x y H Q ⟨env, σ, Hf, Os, d1, d2, d, S, l1, l2, e, q⟩
  obtain ⟨h, e⟩ := chk_eq_ok e
  cases e
  obtain ⟨h1, h2⟩ := Bool.and_eq_true_iff.mp h
  refine ⟨_, _, pd_dp 64 h1 (l1.all S.sub), pd_dp 64 h2 (l2.all S.sub), shp_shaped h1, shp_shaped h2, ?_⟩
  rw [← eqv_pd d1 d2 64 64 h1 h2]
  have z : (false != eqv d1 d2) = eqv d1 d2 := by cases eqv d1 d2 <;> rfl
  rw [z] at q
  exact q.flat S (.bl _)
theorem op_neDD (hu : X.A.units + 64 < cLine) : OpR X (compareOp .NotEq) (r2 X fa (opEq true)) := by
  refine OpR.imp (op_neD hu) ?_
  rintro x y H Q ⟨env, σ, Hf, Os, d1, d2, d, S, l1, l2, e, q⟩
  obtain ⟨h, e⟩ := chk_eq_ok e
  cases e
  obtain ⟨h1, h2⟩ := Bool.and_eq_true_iff.mp h
  refine ⟨_, _, pd_dp 64 h1 (l1.all S.sub), pd_dp 64 h2 (l2.all S.sub), shp_shaped h1, shp_shaped h2, ?_⟩
  rw [← eqv_pd d1 d2 64 64 h1 h2]
  have z : (true != eqv d1 d2) = !eqv d1 d2 := by cases eqv d1 d2 <;> rfl
  rw [z] at q
  exact q.flat S (.bl _)
end
end RE
end

section
set_option linter.all false
set_option maxRecDepth 100000
set_option maxHeartbeats 4000000
/-! RE6: dicts by values. -/
namespace RE
open PySem PySem.Spec PyProof.Rows L2

mutual
theorem eqv_nk : ∀ (a b : D) (n m : Nat), keyN n a = true → keyN m b = true → eqv a b = NestedKey.beq (nk a) (nk b)
  | .int i, b, n, m, _, h => by
    cases b <;> first | (simp [eqv, nk, NestedKey.beq, Bool.beq_eq_decide_eq]; done) | (cases m <;> simp [keyN] at h)
  | .str x, b, n, m, _, h => by
    cases b <;> first | (simp [eqv, nk, NestedKey.beq, Bool.beq_eq_decide_eq]; done) | (cases m <;> simp [keyN] at h)
  | .non, b, n, m, _, h => by
    cases b <;> first | (simp [eqv, nk, NestedKey.beq]; done) | (cases m <;> simp [keyN] at h)
  | .bl c, .bl d, n, m, _, h => by cases c <;> cases d <;> simp [eqv, nk, NestedKey.beq]
  | .bl c, .int d, n, m, _, h => by simp [eqv, nk, NestedKey.beq, Bool.beq_eq_decide_eq]
  | .bl c, .non, n, m, _, h => by simp [eqv, nk, NestedKey.beq]
  | .bl c, .str _, n, m, _, h => by simp [eqv, nk, NestedKey.beq]
  | .bl c, .tup _, n, m, _, h => by simp [eqv, nk, NestedKey.beq]
  | .bl c, .lst _, n, m, _, h => by cases m <;> simp [keyN] at h
  | .bl c, .dic _ _, n, m, _, h => by cases m <;> simp [keyN] at h
  | .bl c, .set _, n, m, _, h => by cases m <;> simp [keyN] at h
  | .bl c, .fn _, n, m, _, h => by cases m <;> simp [keyN] at h
  | .bl c, .ty _, n, m, _, h => by cases m <;> simp [keyN] at h
  | .bl c, .scr _, n, m, _, h => by cases m <;> simp [keyN] at h
  | .tup xs, .tup ys, n + 1, m + 1, h, h' => by
    rw [eqv, nk, nk, NestedKey.beq]
    exact eqvs_nk xs ys n m (by simpa [keyN] using h) (by simpa [keyN] using h')
  | .tup xs, .non, n, m, h, h' => by simp [eqv, nk, NestedKey.beq]
  | .tup xs, .bl _, n, m, h, h' => by simp [eqv, nk, NestedKey.beq]
  | .tup xs, .int _, n, m, h, h' => by simp [eqv, nk, NestedKey.beq]
  | .tup xs, .str _, n, m, h, h' => by simp [eqv, nk, NestedKey.beq]
  | .tup xs, .lst _, n, m, h, h' => by cases m <;> simp [keyN] at h'
  | .tup xs, .dic _ _, n, m, h, h' => by cases m <;> simp [keyN] at h'
  | .tup xs, .set _, n, m, h, h' => by cases m <;> simp [keyN] at h'
  | .tup xs, .fn _, n, m, h, h' => by cases m <;> simp [keyN] at h'
  | .tup xs, .ty _, n, m, h, h' => by cases m <;> simp [keyN] at h'
  | .tup xs, .scr _, n, m, h, h' => by cases m <;> simp [keyN] at h'
  | .tup xs, .tup ys, 0, m, h, h' => by simp [keyN] at h
  | .tup xs, .tup ys, n + 1, 0, h, h' => by simp [keyN] at h'
  | .lst _, b, n, m, h, h' => by cases n <;> simp [keyN] at h
  | .dic _ _, b, n, m, h, h' => by cases n <;> simp [keyN] at h
  | .set _, b, n, m, h, h' => by cases n <;> simp [keyN] at h
  | .fn _, b, n, m, h, h' => by cases n <;> simp [keyN] at h
  | .ty _, b, n, m, h, h' => by cases n <;> simp [keyN] at h
  | .scr _, b, n, m, h, h' => by cases n <;> simp [keyN] at h
theorem eqvs_nk : ∀ (xs ys : List D) (n m : Nat), (∀ x ∈ xs, keyN n x = true) → (∀ y ∈ ys, keyN m y = true) → eqvs xs ys = NestedKey.beqAll (nks xs) (nks ys)
  | [], [], _, _, _, _ => by simp [eqvs, nks, NestedKey.beqAll]
  | [], _ :: _, _, _, _, _ => by simp [eqvs, nks, NestedKey.beqAll]
  | _ :: _, [], _, _, _, _ => by simp [eqvs, nks, NestedKey.beqAll]
  | x :: xs, y :: ys, n, m, h, h' => by
    rw [eqvs, nks, nks, NestedKey.beqAll, eqv_nk x y n m (h x List.mem_cons_self) (h' y List.mem_cons_self), eqvs_nk xs ys n m (fun z hz => h z (List.mem_cons_of_mem _ hz)) fun z hz => h' z (List.mem_cons_of_mem _ hz)]
end
theorem keyT_N {d : D} (h : keyT d = true) : keyN 8 d = true := by
  cases d <;> first | (simp [keyT] at h; done) | skip
  simpa [keyT, keyN] using h
theorem eqv_keyT {a b : D} (h : keyT a = true) (h' : keyT b = true) : eqv a b = decide (nk a = nk b) := by
  rw [eqv_nk a b 8 8 (keyT_N h) (keyT_N h'), NestedKey.decide_eq]
theorem nk_depth : ∀ (n : Nat) (d : D), keyN n d = true → (nk d).depth ≤ n
  | n, .non, _ => by simp [nk, NestedKey.depth]
  | n, .bl _, _ => by simp [nk, NestedKey.depth]
  | n, .int _, _ => by simp [nk, NestedKey.depth]
  | n, .str _, _ => by simp [nk, NestedKey.depth]
  | 0, .tup _, h => by simp [keyN] at h
  | n + 1, .tup xs, h => by
    have h : ∀ x ∈ xs, keyN n x = true := by simpa [keyN] using h
    have all : ∀ ys : List D, (∀ x ∈ ys, keyN n x = true) → NestedKey.depthAll (nks ys) ≤ n := by
      intro ys
      induction ys with
      | nil => intro _; simp [nks, NestedKey.depthAll]
      | cons y r ih =>
        intro hy
        rw [nks, NestedKey.depthAll]
        exact Nat.max_le.mpr ⟨nk_depth n y (hy y List.mem_cons_self), ih fun x hx => hy x (List.mem_cons_of_mem _ hx)⟩
    rw [nk, NestedKey.depth]
    exact Nat.succ_le_succ (all xs h)
  | n, .lst _, h => by cases n <;> simp [keyN] at h
  | n, .dic _ _, h => by cases n <;> simp [keyN] at h
  | n, .set _, h => by cases n <;> simp [keyN] at h
  | n, .fn _, h => by cases n <;> simp [keyN] at h
  | n, .ty _, h => by cases n <;> simp [keyN] at h
  | n, .scr _, h => by cases n <;> simp [keyN] at h

section
variable {X : Cx} {fa : Nat → Option Addr}
section
variable {pins : List (Addr × Obj)} {σ : L2.St} {H : Hp} {s : Shared}
mutual
/-- a value that is a key, as the library's keys -/
theorem rp_is (I : Inv X pins σ H s) : ∀ {v : V} {d : D} (u : Value) (n : Nat), keyN n d = true → Rp (rc X fa) H v d → RelV v u → NestedIs s.heap (nk d) u
  | _, _, u, _, _, .non, r => by cases r; simp only [nk]; exact .none
  | _, _, u, _, _, .bl b, r => by cases r; rw [nk]; exact .bool rfl
  | _, _, u, _, _, .int i, r => by obtain ⟨t, rfl⟩ := r; rw [nk]; exact .int _ _
  | _, _, u, _, _, .str x, r => by obtain ⟨t, rfl⟩ := r; rw [nk]; exact .text _ _
  | _, _, u, n + 1, h, .tup q p, r => by
    cases r
    obtain ⟨its, rv, ⟨o, ho, hc, m, hd⟩, hz⟩ := I.tuple q
    rw [nk]
    exact .tup ho hc hd (by simpa using rp_iss I its n (by simpa [keyN] using h) p rv)
  | _, _, u, 0, h, .tup q p, r => by simp [keyN] at h
  | _, _, u, n, h, .lst _ _, r => by cases n <;> simp [keyN] at h
  | _, _, u, n, h, .dK _ _, r => by cases n <;> simp [keyN] at h
  | _, _, u, n, h, .dT _ _ _, r => by cases n <;> simp [keyN] at h
  | _, _, u, n, h, .fn _, r => by cases n <;> simp [keyN] at h
  | _, _, u, n, h, .ty _, r => by cases n <;> simp [keyN] at h
  | _, _, u, n, h, .scr _ _, r => by cases n <;> simp [keyN] at h
theorem rp_iss (I : Inv X pins σ H s) : ∀ {vs : List V} {ds : List D} (us : List Value) (n : Nat), (∀ d ∈ ds, keyN n d = true) → RpA (rc X fa) H vs ds → Vals vs us → NestedAll s.heap (nks ds) us
  | _, _, us, n, _, .nil, r => by cases r; rw [nks]; exact .nil
  | _, _, us, n, h, .cons a b, r => by
    cases r with
    | cons r1 r2 =>
      rw [nks]
      exact .cons (rp_is I _ n (h _ List.mem_cons_self) a r1) (rp_iss I _ n (fun d hd => h d (List.mem_cons_of_mem _ hd)) b r2)
end
theorem rp_key (I : Inv X pins σ H s) {b : Addr} {d : D} (h : keyT d = true) (r : Rp (rc X fa) H (.ref b) d) : (nestedKind X.prog X.w).is s.heap (nk d) b :=
  ⟨rp_is I _ 8 (keyT_N h) r rfl, by have := nk_depth 8 d (keyT_N h); first | exact this | exact decide_eq_true this | omega⟩
/-- the pairs of keys and values that the entries tell -/
def prs (L : List DictEntry) (kvs : List (D × D)) : List (NestedKey × Value) := List.zipWith (fun e kv => (nk kv.1, e.val)) L kvs
def xsOf : List DictEntry → List (D × D) → List (NestedKey × Addr × Value)
  | e :: L, kv :: kvs => (nk kv.1, (match e.key with | .ref b => b | _ => 0), e.val) :: xsOf L kvs
  | _, _ => []
theorem xs_prs : ∀ (L : List DictEntry) (kvs : List (D × D)), pairsH (xsOf L kvs) = prs L kvs
  | [], _ => by cases ‹List (D × D)› <;> rfl
  | _ :: _, [] => rfl
  | e :: L, kv :: kvs => by
    show (nk kv.1, e.val) :: pairsH (xsOf L kvs) = (nk kv.1, e.val) :: prs L kvs
    rw [xs_prs L kvs]
theorem dk_keyed (I : Inv X pins σ H s) {a : Addr} {L : List DictEntry} {kvs : List (D × D)} {Hf : Hp} (sub : Sub Hf H) (h : Rd H a (DkO a L)) (r : RpT (rc X fa) Hf L kvs) (n : (kvs.map fun kv => nk kv.1).Nodup) :
    s.heap.DictKeyed (nestedKind X.prog X.w) a (prs L kvs) ∧ L.length ≤ sizeLine ∧ (a == sysModules) = false ∧ L.length = kvs.length := by
  have q := h.ok I.hok
  obtain ⟨⟨o, ep, ho, hx, hd, hz, hm⟩, _, _⟩ := q
  have go : ∀ {L : List DictEntry} {kvs : List (D × D)}, RpT (rc X fa) Hf L kvs → L = (xsOf L kvs).map (entryOfKey (nestedKind X.prog X.w)) ∧ (∀ x ∈ xsOf L kvs, (nestedKind X.prog X.w).is s.heap x.1 x.2.1) ∧ (xsOf L kvs).map (·.1) = kvs.map (fun kv => nk kv.1) ∧ L.length = kvs.length := by
    intro L kvs r
    induction L generalizing kvs with
    | nil => cases r; exact ⟨rfl, fun _ hx => (by cases hx), rfl, rfl⟩
    | cons e L ih =>
      cases r with
      | cons e1 e2 e3 e4 e5 e6 e7 =>
        obtain ⟨i1, i2, i3, i4⟩ := ih e7
        refine ⟨?_, fun x hx => ?_, ?_, ?_⟩
        · show e :: L = entryOfKey _ (_, (match e.key with | .ref b => b | _ => 0), e.val) :: (xsOf L _).map _
          rw [← i1]
          congr 1
          unfold entryOfKey
          cases e
          simp only at e1 e4 ⊢
          subst e1 e4
          rfl
        · rcases List.mem_cons.mp hx with rfl | hx
          · show (nestedKind X.prog X.w).is s.heap _ (match e.key with | .ref b => b | _ => 0)
            rw [e1]
            exact rp_key I e3 (e2.sub sub)
          · exact i2 x hx
        · show _ :: (xsOf L _).map (·.1) = _ :: _
          rw [i3]
        · show L.length + 1 = _ + 1
          rw [i4]
  obtain ⟨g1, g2, g3, g4⟩ := go r
  refine ⟨⟨xsOf L kvs, ⟨o, L.toArray, ep, ho, hx, hd, by simpa using g1, g2, by rw [g3]; exact n⟩, xs_prs L kvs⟩, hz, hm, g4⟩
theorem look_prs {R : Rc} {Hf : Hp} {k : D} (hk : keyT k = true) : ∀ {L : List DictEntry} {kvs : List (D × D)}, RpT R Hf L kvs →
    (∀ d, lookD kvs k = some d → ∃ z u, valueAt (prs L kvs) (nk k) = some u ∧ RelV z u ∧ Rp R Hf z d) ∧ (lookD kvs k = none → valueAt (prs L kvs) (nk k) = none) ∧ hasD kvs k = (valueAt (prs L kvs) (nk k)).isSome
  | _, _, .nil => ⟨fun d h => (by cases h), fun _ => rfl, rfl⟩
  | _, _, .cons (e := e) (k := k0) (d := d0) (ks := L) (kvs := kvs) e1 e2 e3 e4 e5 e6 e7 => by
    obtain ⟨i1, i2, i3⟩ := look_prs hk e7
    have q := eqv_keyT e3 hk
    have pe : prs (e :: L) ((k0, d0) :: kvs) = (nk k0, e.val) :: prs L kvs := rfl
    by_cases z : nk k0 = nk k
    · rw [decide_eq_true z] at q
      have v1 : valueAt (prs (e :: L) ((k0, d0) :: kvs)) (nk k) = some e.val := by
        rw [pe]
        unfold valueAt
        rw [List.find?_cons_of_pos (by simpa using z)]
        rfl
      have l1 : lookD ((k0, d0) :: kvs) k = some d0 := by
        unfold lookD
        rw [List.find?_cons_of_pos (by simpa using q)]
        rfl
      refine ⟨fun d h => ?_, fun h => ?_, ?_⟩
      · rw [l1] at h
        cases h
        exact ⟨_, _, v1, e5, e6⟩
      · rw [l1] at h; cases h
      · rw [v1]
        show (eqv k0 k || _) = true
        rw [q]; rfl
    · rw [decide_eq_false z] at q
      have v1 : valueAt (prs (e :: L) ((k0, d0) :: kvs)) (nk k) = valueAt (prs L kvs) (nk k) := by
        rw [pe]
        unfold valueAt
        rw [List.find?_cons_of_neg (by simpa using z)]
      have l1 : lookD ((k0, d0) :: kvs) k = lookD kvs k := by
        unfold lookD
        rw [List.find?_cons_of_neg (by simp [q])]
      rw [l1, v1]
      refine ⟨i1, i2, ?_⟩
      show (eqv k0 k || hasD kvs k) = _
      rw [q]
      exact i3
end
/-- keys that are ints and texts -/
theorem kD_eqv (a b : Key) : eqv (kD a) (kD b) = decide (a = b) := by
  cases a <;> cases b
  · rw [kD, kD, eqv, key_ll]
  · rw [kD, kD, key_lr]; rfl
  · rw [kD, kD, key_rl]; rfl
  · rw [kD, kD, eqv, key_rr]
    rename_i x y
    rw [Bool.eq_iff_iff]
    cases x; cases y
    simp
theorem key_of0 {k : D} (h : key0 k = true) : ∃ key : Key, kD key = k ∧ ∀ {R : Rc} {Hf H : Hp} {v : V}, Ld R Hf H v k → v = kV key := by
  cases k <;> first | (simp [key0] at h; done) | skip
  · exact ⟨.inl _, rfl, fun l => l.int⟩
  · rename_i x
    exact ⟨.inr ⟨x.toArray⟩, by simp [kD], fun l => l.str⟩
theorem look_dK {R : Rc} {Hf : Hp} {key : Key} : ∀ {ks : List (Key × V)} {kvs : List (D × D)}, RpK R Hf ks kvs →
    (∀ d, lookD kvs (kD key) = some d → ∃ z, valV ks key = some z ∧ Rp R Hf z d) ∧ (lookD kvs (kD key) = none → valV ks key = none) ∧ hasD kvs (kD key) = (valV ks key).isSome
  | _, _, .nil => ⟨fun d h => (by cases h), fun _ => rfl, rfl⟩
  | _, _, .cons (k := k0) (v := v0) (d := d0) (ks := ks) (kvs := kvs) e1 e7 => by
    obtain ⟨i1, i2, i3⟩ := look_dK (key := key) e7
    have q := kD_eqv k0 key
    by_cases z : k0 = key
    · rw [decide_eq_true z] at q
      have v1 : valV ((k0, v0) :: ks) key = some v0 := valV_pos z
      have l1 : lookD ((kD k0, d0) :: kvs) (kD key) = some d0 := by
        unfold lookD
        rw [List.find?_cons_of_pos (by simpa using q)]
        rfl
      refine ⟨fun d h => ?_, fun h => ?_, ?_⟩
      · rw [l1] at h
        cases h
        exact ⟨_, v1, e1⟩
      · rw [l1] at h; cases h
      · rw [v1]
        show (eqv (kD k0) (kD key) || _) = true
        rw [q]; rfl
    · rw [decide_eq_false z] at q
      have v1 : valV ((k0, v0) :: ks) key = valV ks key := valV_neg z
      have l1 : lookD ((kD k0, d0) :: kvs) (kD key) = lookD kvs (kD key) := by
        unfold lookD
        rw [List.find?_cons_of_neg (by simp [q])]
      rw [l1, v1]
      refine ⟨i1, i2, ?_⟩
      show (eqv (kD k0) (kD key) || hasD kvs (kD key)) = _
      rw [q]
      exact i3
end
end RE
end

section
set_option linter.all false
set_option maxRecDepth 100000
set_option maxHeartbeats 4000000
/-! RE7: in, items, slices. -/
namespace RE
open PySem PySem.Spec PyProof.Rows L2
section
variable {X : Cx} {fa : Nat → Option Addr}
/-! ### in -/
def rInT (K : PySem.W.Frag) (neg : Bool) : R2 := fun x y H Q => ∃ d ds, Dp K H x d ∧ Dp K H y (.tuple ds) ∧ SeqAt.shaped d = true ∧ SeqAt.shaped (.tuple ds) = true ∧ Q (.bl (neg != ds.any fun z => PyData.eqv z d)) H
theorem op_inT (hu : X.A.units + 65 < cLine) : OpR X (compareOp .In) (rInT X.K false) := by
  intro pins s σ H x y v u Q I rx ry h
  obtain ⟨d, ds, hd, he, sd, se, q⟩ := h
  obtain ⟨as, q1⟩ := Dp.reads I d x v hd rx
  obtain ⟨bs, q2⟩ := Dp.reads I (.tuple ds) y u he ry
  have z : ∀ c : Bool, (false != c) = c := fun c => by cases c <;> rfl
  rw [z] at q
  exact SeqAt.in_tuple_reads q2 q1 (SeqAt.canLay_of_shaped se) (SeqAt.canLay_of_shaped sd) (room_in_shaped sd hu) ⟨.bl _, H, I, rfl, q⟩
theorem op_notInT (hu : X.A.units + 65 < cLine) : OpR X (compareOp .NotIn) (rInT X.K true) := by
  intro pins s σ H x y v u Q I rx ry h
  obtain ⟨d, ds, hd, he, sd, se, q⟩ := h
  obtain ⟨as, q1⟩ := Dp.reads I d x v hd rx
  obtain ⟨bs, q2⟩ := Dp.reads I (.tuple ds) y u he ry
  have z : ∀ c : Bool, (true != c) = !c := fun c => by cases c <;> rfl
  rw [z] at q
  exact SeqAt.notIn_tuple_reads q2 q1 (SeqAt.canLay_of_shaped se) (SeqAt.canLay_of_shaped sd) (room_in_shaped sd hu) ⟨.bl _, H, I, rfl, q⟩
theorem any_pd {x : D} (hx : shp 64 x = true) : ∀ ys : List D, (∀ y ∈ ys, shp 63 y = true) → ((pds ys).any fun z => PyData.eqv z (pd x)) = ys.any fun y => eqv y x
  | [], _ => by rw [pds]; rfl
  | y :: r, h => by
    rw [pds, List.any_cons, List.any_cons, any_pd hx r fun z hz => h z (List.mem_cons_of_mem _ hz), eqv_pd y x 63 64 (h y List.mem_cons_self) hx]
theorem shp_lst {ys : List D} (h : ys.all (shp 63) = true) : shp 64 (.lst ys) = true := by rw [shp]; exact h
theorem shp_tup {ys : List D} (h : ys.all (shp 63) = true) : shp 64 (.tup ys) = true := by rw [shp]; exact h
theorem valueAt_isSome_dec {L : List DictEntry} {kvs : List (D × D)} {k : NestedKey} : (valueAt (prs L kvs) k).isSome = (valueAt (prs L kvs) k).isSome := rfl
theorem op_inAll (hu : X.A.units + 65 < cLine) (neg : Bool) : OpR X (compareOp (if neg then .NotIn else .In)) (r2 X fa (opIn neg)) := by
  intro pins s σ H x y v u Q I rx ry h
  obtain ⟨env, σ', Hf, Os, d1, d2, d, S, l1, l2, e, q⟩ := h
  have hu64 : X.A.units + 64 < cLine := by omega
  have hu1 : X.A.units + 1 < cLine := by omega
  have zf : ∀ c : Bool, (false != c) = c := fun c => by cases c <;> rfl
  have zt : ∀ c : Bool, (true != c) = !c := fun c => by cases c <;> rfl
  cases d2 with
  | str z =>
    cases d1 with
    | str x0 =>
      match x0, e with
      | [c], e =>
        cases e
        cases neg with
        | false =>
          refine op_in_sign pins s σ H x y v u Q I rx ry ⟨c, ⟨z.toArray⟩, l1.str, l2.str, ?_⟩
          rw [zf] at q
          have w : decide (c ∈ (⟨z.toArray⟩ : Str).cps.toList) = z.contains c := by simp [List.contains_eq_mem]
          rw [w]
          exact q.flat S (.bl _)
        | true =>
          refine op_notIn_sign pins s σ H x y v u Q I rx ry ⟨c, ⟨z.toArray⟩, l1.str, l2.str, ?_⟩
          rw [zt] at q
          have w : decide (c ∈ (⟨z.toArray⟩ : Str).cps.toList) = z.contains c := by simp [List.contains_eq_mem]
          rw [w]
          exact q.flat S (.bl _)
    | _ => cases e
  | lst ys =>
    have e : chk (shp 64 d1 && ys.all (shp 63)) (.ok (.bl (neg != ys.any fun y => eqv y d1))) = .ok d := by cases d1 <;> exact e
    obtain ⟨h, e⟩ := chk_eq_ok e
    cases e
    obtain ⟨h1, h2⟩ := Bool.and_eq_true_iff.mp h
    have p1 := pd_dp 64 h1 (l1.all S.sub)
    have p2 := pd_dp 64 (shp_lst h2) (l2.all S.sub)
    rw [pd] at p2
    have s2 := shp_shaped (shp_lst h2)
    rw [pd] at s2
    rw [← any_pd h1 ys (by simpa using h2)] at q
    cases neg with
    | false => rw [zf] at q; exact op_inD hu pins s σ H x y v u Q I rx ry ⟨_, _, p1, p2, shp_shaped h1, s2, q.flat S (.bl _)⟩
    | true => rw [zt] at q; exact op_notInD hu pins s σ H x y v u Q I rx ry ⟨_, _, p1, p2, shp_shaped h1, s2, q.flat S (.bl _)⟩
  | tup ys =>
    have e : chk (shp 64 d1 && ys.all (shp 63)) (.ok (.bl (neg != ys.any fun y => eqv y d1))) = .ok d := by cases d1 <;> exact e
    obtain ⟨h, e⟩ := chk_eq_ok e
    cases e
    obtain ⟨h1, h2⟩ := Bool.and_eq_true_iff.mp h
    have p1 := pd_dp 64 h1 (l1.all S.sub)
    have p2 := pd_dp 64 (shp_tup h2) (l2.all S.sub)
    rw [pd] at p2
    have s2 := shp_shaped (shp_tup h2)
    rw [pd] at s2
    rw [← any_pd h1 ys (by simpa using h2)] at q
    cases neg with
    | false => exact op_inT hu pins s σ H x y v u Q I rx ry ⟨_, _, p1, p2, shp_shaped h1, s2, q.flat S (.bl _)⟩
    | true => exact op_notInT hu pins s σ H x y v u Q I rx ry ⟨_, _, p1, p2, shp_shaped h1, s2, q.flat S (.bl _)⟩
  | dic t kvs =>
    have e : chk (keyOf t d1) (.ok (.bl (neg != hasD kvs d1))) = .ok d := by cases d1 <;> exact e
    obtain ⟨h, e⟩ := chk_eq_ok e
    cases e
    cases t with
    | false =>
      obtain ⟨key, ek, lv⟩ := key_of0 h
      obtain ⟨a, ks, rfl, hd, rk⟩ := l2.dK' S.sub
      obtain ⟨_, _, w3⟩ := look_dK (key := key) rk
      cases ry
      subst ek
      rw [w3] at q
      have g : DGet H a x (valV ks key) := .inl ⟨ks, key, hd, lv l1, rfl⟩
      cases neg with
      | false => rw [zf] at q; exact d_in hu1 I g rx fun s' I' => ⟨.bl _, H, I', rfl, q.flat S (.bl _)⟩
      | true => rw [zt] at q; exact d_notIn hu1 I g rx fun s' I' => ⟨.bl _, H, I', rfl, q.flat S (.bl _)⟩
    | true =>
      obtain ⟨a, L, rfl, hd, rk, nd⟩ := l2.dT' S.sub
      obtain ⟨dk, hz, hm, hl⟩ := dk_keyed I S.sub hd rk nd
      cases ry
      have h : keyT d1 = true := h
      obtain ⟨_, _, w3⟩ := look_prs h rk
      rw [w3] at q
      cases d1 with
      | tup ds =>
        obtain ⟨b, vs, rfl, hb, rb⟩ := l1.tup
        cases rx
        have kk := rp_key I h ((Rp.tup hb rb).sub S.sub)
        have room : (nestedKind X.prog X.w).room X.A.in1 := by show X.A.units + 1 + 8 < cLine; omega
        cases neg with
        | false => rw [zf] at q; exact in_keyed room kk hm dk ⟨.bl _, H, I.tok _, rfl, q.flat S (.bl _)⟩
        | true => rw [zt] at q; exact notIn_keyed room kk hm dk ⟨.bl _, H, I.tok _, rfl, q.flat S (.bl _)⟩
      | _ => simp [keyT] at h
  | _ => cases d1 <;> cases e
theorem op_inYes (hu : X.A.units + 65 < cLine) : OpR X (compareOp .In) (r2 X fa (op2 .isin)) := op_inAll hu false
theorem op_inNo (hu : X.A.units + 65 < cLine) : OpR X (compareOp .NotIn) (r2 X fa (op2 .notin)) := op_inAll hu true

/-! ### items -/
theorem atI_map {R : Rc} {Hf : Hp} {vs : List V} {ds : List D} {i : Int} {d : D} (r : RpA R Hf vs ds) (h : atI ds i = some d) : ∃ v, atI vs i = some v ∧ Rp R Hf v d := by
  unfold atI at h ⊢
  rw [r.length]
  cases e : ixN ds.length i with
  | none => rw [e] at h; cases h
  | some j =>
    rw [e] at h
    obtain ⟨v, h1, h2⟩ := r.get (show ds[j]? = some d from h)
    exact ⟨v, h1, h2⟩
theorem ix_all (hu : X.A.units + 65 < cLine) : IxR X (r2 X fa opIdx) := by
  intro value slice pins s σ H x y v u Q I rx ry h hs
  obtain ⟨env, σ', Hf, Os, d1, d2, d, S, l1, l2, e, q⟩ := h
  have hu1 : X.A.units + 1 < cLine := by omega
  cases d1 with
  | lst xs =>
    cases d2 with
    | int i =>
      obtain ⟨a, vs, rfl, ha, ra⟩ := l1.lst' S.sub
      obtain ⟨z, h1, h2⟩ := atI_map ra (ofO_eq_ok e)
      exact ix_list value slice pins s σ H _ y v u Q I rx ry ⟨a, vs, i, z, rfl, l2.int, .inl ha, h1, q.flat S h2⟩ hs
    | _ => cases e
  | tup xs =>
    cases d2 with
    | int i =>
      obtain ⟨a, vs, rfl, ha, ra⟩ := l1.tup
      obtain ⟨z, h1, h2⟩ := atI_map ra (ofO_eq_ok e)
      exact ix_tup value slice pins s σ H _ y v u Q I rx ry ⟨a, vs, i, z, rfl, l2.int, S.sub.tup ha, h1, q.flat S h2⟩ hs
    | _ => cases e
  | str z =>
    cases d2 with
    | int i =>
      obtain ⟨h, e⟩ := chk_eq_ok e
      obtain ⟨c, e1, e2⟩ := Out.bind_eq_ok e
      cases e2
      refine ix_str value slice pins s σ H x y v u Q I rx ry ⟨⟨z.toArray⟩, i, c, l1.str, l2.int, by simpa [Str.length] using inLim_le h, ofO_eq_ok e1, q.flat S ?_⟩ hs
      exact .str [c]
    | _ => cases e
  | dic t kvs =>
    have e : chk (keyOf t d2) (ofO (lookD kvs d2)) = .ok d := by cases d2 <;> exact e
    obtain ⟨h, e0⟩ := chk_eq_ok e
    have e9 := ofO_eq_ok e0
    clear e e0
    cases t with
    | false =>
      obtain ⟨key, ek, lv⟩ := key_of0 h
      obtain ⟨a, ks, rfl, hd, rk⟩ := l1.dK' S.sub
      obtain ⟨w1, _, _⟩ := look_dK (key := key) rk
      cases rx
      subst ek
      obtain ⟨z, e1, rz⟩ := w1 _ e9
      have g : DGet H a y (some z) := .inl ⟨ks, key, hd, lv l2, e1.symm⟩
      exact tail_any (ops := [.ref a, u]) (dict_typeIs I g) PySem.F.slot_dict_getitem.lookup (d_getItem hu1 I g ry fun w' s' I' rw' => ⟨z, H, I', rw', q.flat S rz⟩) hs
    | true =>
      obtain ⟨a, L, rfl, hd, rk, nd⟩ := l1.dT' S.sub
      obtain ⟨dk, hz, hm, hl⟩ := dk_keyed I S.sub hd rk nd
      cases rx
      have h : keyT d2 = true := h
      obtain ⟨w1, _, _⟩ := look_prs h rk
      obtain ⟨z, z', e1, rz, rz'⟩ := w1 _ e9
      cases d2 with
      | tup ds =>
        obtain ⟨b, vs, rfl, hb, rb⟩ := l2.tup
        cases ry
        have kk := rp_key I h ((Rp.tup hb rb).sub S.sub)
        have room : (nestedKind X.prog X.w).room X.A.in1 := by show X.A.units + 1 + 8 < cLine; omega
        exact tail_any (ops := [.ref a, .ref b]) dk.typeIs PySem.F.slot_dict_getitem.lookup (getItem_keyed room kk dk e1 ⟨z, H, I.tok _, rz, q.flat S rz'⟩) hs
      | _ => simp [keyT] at h
  | _ => cases d2 <;> cases e

/-! ### slices -/
theorem cut_rpa {R : Rc} {Hf : Hp} {vs : List V} {ds : List D} (lo hi : Option Int) (r : RpA R Hf vs ds) : RpA R Hf (cutV vs lo hi) (cutD ds lo hi) := by
  unfold cutV cutD
  rw [r.length]
  exact (r.drop _).take _
theorem cutD_whole {α : Type} (xs : List α) {lo hi : Option Int} (h : HT.sIx xs.length 0 lo = 0 ∧ HT.sIx xs.length xs.length hi = xs.length) : cutD xs lo hi = xs := by
  unfold cutD
  rw [h.1, h.2]
  simp
def slD (lo hi : Option Int) (d : D) : Out D := match d with | .tup xs => .ok (.tup (cutD xs lo hi)) | .lst xs => .ok (.lst (cutD xs lo hi)) | .str z => chk (inLim z.length) (.ok (.str (cutD z lo hi))) | _ => .bad
def rSl (X : Cx) (fa : Nat → Option Addr) : V → Option Int → Option Int → Hp → VK → Prop := fun x lo hi H Q => ∃ env σ Hf Os d1 d, Sim (rc X fa) env σ Hf H Os ∧ Ld (rc X fa) Hf H x d1 ∧
  slD lo hi d1 = Out.ok d ∧ Aft (rc X fa) env σ Hf H Os d Q
theorem SlR.imp {r r' : V → Option Int → Option Int → Hp → VK → Prop} (h : SlR X r) (i : ∀ x lo hi H Q, r' x lo hi H Q → r x lo hi H Q) : SlR X r' :=
  fun pins s σ H x v vl vu lo hi sl Q I rx hs pl pu q => h pins s σ H x v vl vu lo hi sl Q I rx hs pl pu (i _ _ _ _ _ q)
theorem sl_all : SlR X (rSl X fa) := by
  refine SlR.imp ((SlR.or sl_tupA sl_list).or sl_str) ?_
  rintro x lo hi H Q ⟨env, σ, Hf, Os, d1, d, S, l1, e, q⟩
  cases d1 with
  | tup xs =>
    cases e
    obtain ⟨a, vs, rfl, ha, ra⟩ := l1.tup
    refine .inl (.inl ⟨a, vs, rfl, S.sub.tup ha, fun h => ?_, fun _ p n => q.newTup S (cut_rpa lo hi ra) n⟩)
    rw [cutD_whole xs (by rw [← ra.length]; exact h)] at q
    exact q.flat S (.tup ha ra)
  | lst xs =>
    cases e
    obtain ⟨a, vs, rfl, ha, ra⟩ := l1.lst' S.sub
    exact .inl (.inr ⟨a, vs, rfl, .inl ha, fun p n => q.newLst S (cut_rpa lo hi ra) n⟩)
  | str z =>
    obtain ⟨h, e⟩ := chk_eq_ok e
    cases e
    refine .inr ⟨⟨z.toArray⟩, l1.str, by simpa [Str.length] using inLim_le h, q.flat S ?_⟩
    have w : cutS ⟨z.toArray⟩ lo hi = ⟨(cutD z lo hi).toArray⟩ := by
      unfold cutS cutD
      simp [Str.length]
    rw [w]
    exact .str _
  | _ => cases e
end
end RE
end

section
set_option linter.all false
set_option maxRecDepth 100000
set_option maxHeartbeats 4000000
/-! RE8: truth, operations of one value, calls of built-in functions, reversed slices. -/
namespace RE
open PySem PySem.Spec PyProof.Rows L2
section
variable {X : Cx} {fa : Nat → Option Addr}
/-! ### truth -/
theorem truV_of {env : RE.Env} {σ : L2.St} {Hf H : Hp} {Os : Nat → List Addr} {x : V} {d : D} {b : Bool} (S : Sim (rc X fa) env σ Hf H Os) (l : Ld (rc X fa) Hf H x d) (e : truth d = some b) : TruV X.K x H b := by
  cases d <;> first | (cases e; done) | skip
  · rw [l.non]; exact (Option.some.inj e).symm
  · rw [l.bl]; exact (Option.some.inj e).symm
  · rw [l.int]; exact (Option.some.inj e).symm
  · rename_i z
    rw [l.str]
    simp only [truth] at e
    by_cases h : z.length ≤ 16777216
    · rw [if_pos h] at e
      have hl : (⟨z.toArray⟩ : Str).length = z.length := by simp [Str.length]
      refine ⟨by rw [hl, sizeLine_eq]; exact h, ?_⟩
      rw [hl, ← Option.some.inj e]
      cases z <;> simp <;> omega
    · rw [if_neg h] at e; cases e
  · obtain ⟨a, vs, rfl, ha, ra⟩ := l.tup
    refine .inr (.inl ⟨vs, S.sub.tup ha, ?_⟩)
    rw [← Option.some.inj e]
    cases ra <;> rfl
  · obtain ⟨a, vs, rfl, ha, ra⟩ := l.lst' S.sub
    refine .inl ⟨vs, .inl ha, ?_⟩
    rw [← Option.some.inj e]
    cases ra <;> rfl
theorem tru_all : TruR X (fun x H Q => ∃ env σ Hf Os d b, Sim (rc X fa) env σ Hf H Os ∧ Ld (rc X fa) Hf H x d ∧ truth d = some b ∧ Q b H) := by
  intro pins s σ H x v Q I rx h
  obtain ⟨env, σ', Hf, Os, d, b, S, l, e, q⟩ := h
  exact tru_ok pins s σ H x v Q I rx ⟨b, truV_of S l e, q⟩

/-! ### one value -/
theorem un_negD : UnR X (unaryOp .USub) (r1 X fa (op1 .neg)) := by
  refine UnR.imp un_neg ?_
  rintro x H Q ⟨env, σ, Hf, Os, d1, d, S, l1, e, q⟩
  cases d1 <;> try (cases e; done)
  cases e
  exact ⟨_, l1.int, q.flat S (.int _)⟩
theorem un_invD : UnR X (unaryOp .Invert) (r1 X fa (op1 .inv)) := by
  refine UnR.imp un_inv ?_
  rintro x H Q ⟨env, σ, Hf, Os, d1, d, S, l1, e, q⟩
  cases d1 <;> try (cases e; done)
  cases e
  exact ⟨_, l1.int, q.flat S (.int _)⟩
theorem isN_ld {R : Rc} {Hf H : Hp} {v : V} {d : D} (h : Ld R Hf H v d) : decide (v = .non) = isNon d := by
  cases h with
  | rp r => cases r <;> first | rfl | simp [isNon]
  | lst _ _ => simp [isNon]
  | dK _ _ => simp [isNon]
  | dT _ _ _ => simp [isNon]

/-! ### calls -/
def rC1 (X : Cx) (fa : Nat → Option Addr) (g : D → Out D) : List V → Hp → VK → Prop := fun xs H Q => ∃ x, xs = [x] ∧ r1 X fa g x H Q
def rC2 (X : Cx) (fa : Nat → Option Addr) (g : D → D → Out D) : List V → Hp → VK → Prop := fun xs H Q => ∃ x y, xs = [x, y] ∧ r2 X fa g x y H Q
/-- .. that gives a fresh list -/
def rF1 (X : Cx) (fa : Nat → Option Addr) (g : D → Out (List D)) : List V → Hp → VK → Prop := fun xs H Q => ∃ x env σ Hf Os d1 ds, xs = [x] ∧ Sim (rc X fa) env σ Hf H Os ∧ Ld (rc X fa) Hf H x d1 ∧ g d1 = .ok ds ∧ AftF (rc X fa) env σ Hf H Os ds Q
theorem CallR.imp {f : Value} {r r' : List V → Hp → VK → Prop} (h : CallR X f r) (i : ∀ xs H Q, r' xs H Q → r xs H Q) : CallR X f r' :=
  fun pins s σ H xs us Q I rx q => h pins s σ H xs us Q I rx (i _ _ _ q)
theorem call_lenD' : CallR X (.builtin "len") (rC1 X fa opLen) := by
  intro pins s σ H xs us Q I rx h
  obtain ⟨x, rfl, env, σ', Hf, Os, d1, d, S, l1, e, q⟩ := h
  cases d1 <;> try (cases e; done)
  · rename_i z
    obtain ⟨h, e⟩ := chk_eq_ok e
    cases e
    have hl : (⟨z.toArray⟩ : Str).length = z.length := by simp [Str.length]
    refine call_len_str pins s σ H _ us Q I rx ⟨⟨z.toArray⟩, by rw [l1.str], by rw [hl]; exact inLim_le h, ?_⟩
    rw [hl]
    exact q.flat S (.int _)
  · cases e
    obtain ⟨a, vs, rfl, ha, ra⟩ := l1.tup
    refine call_len_seq pins s σ H _ us Q I rx ⟨a, vs, rfl, .inr (S.sub.tup ha), ?_⟩
    rw [ra.length]
    exact q.flat S (.int _)
  · cases e
    obtain ⟨a, vs, rfl, ha, ra⟩ := l1.lst' S.sub
    refine call_len_seq pins s σ H _ us Q I rx ⟨a, vs, rfl, .inl (.inl ha), ?_⟩
    rw [ra.length]
    exact q.flat S (.int _)
  · rename_i t kvs
    cases e
    obtain ⟨u, rfl, ru⟩ := vals1 rx
    cases t with
    | false =>
      obtain ⟨a, ks, rfl, hd, rk⟩ := l1.dK' S.sub
      cases ru
      refine d_len I hd fun t s' I' => ⟨.int _, H, I', ⟨_, rfl⟩, ?_⟩
      have : ∀ {ks : List (Key × V)} {kvs : List (D × D)}, RpK (rc X fa) Hf ks kvs → ks.length = kvs.length := by
        intro ks kvs r
        induction ks generalizing kvs with
        | nil => cases r; rfl
        | cons k ks ih => cases r with | cons _ r => exact congrArg (· + 1) (ih r)
      rw [this rk]
      exact q.flat S (.int _)
    | true =>
      obtain ⟨a, L, rfl, hd, rk, nd⟩ := l1.dT' S.sub
      obtain ⟨⟨xs, hx, ep⟩, hz, hm, hl⟩ := dk_keyed I S.sub hd rk nd
      cases ru
      have hlen : xs.length = kvs.length := by
        rw [← pairsH_length xs, ep]
        unfold prs
        rw [List.length_zipWith, hl, Nat.min_self]
      refine PySem.call_len_dictH hm hx (by rw [hlen, ← hl]; rw [sizeLine_eq] at hz; omega) ⟨.int _, H, I.tok _, ⟨_, rfl⟩, ?_⟩
      rw [hlen]
      exact q.flat S (.int _)
theorem call_tupleD : CallR X (.type "tuple") (rC1 X fa opTuple) := by
  refine CallR.imp call_tuple_of ?_
  rintro xs H Q ⟨x, rfl, env, σ, Hf, Os, d1, d, S, l1, e, q⟩
  cases d1 <;> try (cases e; done)
  · cases e
    obtain ⟨a, vs, rfl, ha, ra⟩ := l1.tup
    exact ⟨a, vs, rfl, .inr ⟨S.sub.tup ha, q.flat S (.tup ha ra)⟩⟩
  · cases e
    obtain ⟨a, vs, rfl, ha, ra⟩ := l1.lst' S.sub
    exact ⟨a, vs, rfl, .inl ⟨.inl ha, fun p n => q.newTup S ra n⟩⟩
theorem call_listD : CallR X (.type "list") (rF1 X fa fList) := by
  refine CallR.imp call_list_of ?_
  rintro xs H Q ⟨x, env, σ, Hf, Os, d1, ds, rfl, S, l1, e, q⟩
  by_cases hs : ∃ zs, d1 = .scr zs
  · obtain ⟨zs, rfl⟩ := hs
    cases e
    cases l1 with
    | rp r =>
      cases r with
      | scr h r => exact ⟨_, _, rfl, .inl (h.elim (fun h => .inl (S.sub.rd h)) .inr), fun p n => q.new S r n⟩
  cases d1 <;> first | (cases e; done) | (exact absurd ⟨_, rfl⟩ hs) | skip
  · cases e
    obtain ⟨a, vs, rfl, ha, ra⟩ := l1.tup
    exact ⟨a, vs, rfl, .inr (S.sub.tup ha), fun p n => q.new S ra n⟩
  · cases e
    obtain ⟨a, vs, rfl, ha, ra⟩ := l1.lst' S.sub
    exact ⟨a, vs, rfl, .inl (.inl ha), fun p n => q.new S ra n⟩
theorem call_sumD (hc : X.calm = true) : CallR X (.builtin "sum") (rC1 X fa opSum) := by
  refine CallR.imp (cr_sum hc) ?_
  rintro xs H Q ⟨x, rfl, env, σ, Hf, Os, d1, d, S, l1, e, q⟩
  cases d1 <;> try (cases e; done)
  obtain ⟨ns, e1, e2⟩ := Out.bind_eq_ok e
  cases e2
  obtain ⟨a, vs, rfl, ha, ra⟩ := l1.lst' S.sub
  have w := ra.ints (ofO_eq_ok e1)
  subst w
  exact ⟨a, ns, rfl, .inl ha, q.flat S (.int _)⟩
theorem call_allD (hc : X.calm = true) : CallR X (.builtin "all") (rC1 X fa (op1 .all)) := by
  refine CallR.imp (cr_all hc) ?_
  rintro xs H Q ⟨x, rfl, env, σ, Hf, Os, d1, d, S, l1, e, q⟩
  cases d1 <;> try (cases e; done)
  obtain ⟨ns, e1, e2⟩ := Out.bind_eq_ok e
  cases e2
  obtain ⟨a, vs, rfl, ha, ra⟩ := l1.lst' S.sub
  have w := ra.bls (ofO_eq_ok e1)
  subst w
  exact ⟨a, ns, rfl, .inl ha, q.flat S (.bl _)⟩
theorem call_anyD (hc : X.calm = true) : CallR X (.builtin "any") (rC1 X fa (op1 .any)) := by
  refine CallR.imp (cr_any hc) ?_
  rintro xs H Q ⟨x, rfl, env, σ, Hf, Os, d1, d, S, l1, e, q⟩
  cases d1 <;> try (cases e; done)
  obtain ⟨ns, e1, e2⟩ := Out.bind_eq_ok e
  cases e2
  obtain ⟨a, vs, rfl, ha, ra⟩ := l1.lst' S.sub
  have w := ra.bls (ofO_eq_ok e1)
  subst w
  exact ⟨a, ns, rfl, .inl ha, q.flat S (.bl _)⟩
theorem call_absD : CallR X (.builtin "abs") (rC1 X fa (op1 .abs)) := by
  refine CallR.imp call_abs ?_
  rintro xs H Q ⟨x, rfl, env, σ, Hf, Os, d1, d, S, l1, e, q⟩
  cases d1 <;> try (cases e; done)
  cases e
  exact ⟨_, by rw [l1.int], q.flat S (.int _)⟩
theorem call_intD : CallR X (.type "int") (rC1 X fa (op1 .int)) := by
  refine CallR.imp call_int1 ?_
  rintro xs H Q ⟨x, rfl, env, σ, Hf, Os, d1, d, S, l1, e, q⟩
  cases d1 <;> try (cases e; done)
  cases e
  exact .inl ⟨_, by rw [l1.int], q.flat S (.int _)⟩
theorem call_max2D (hc : X.calm = true) : CallR X (.builtin "max") (rC2 X fa (op2 .max2)) := by
  refine CallR.imp (call_max2 hc) ?_
  rintro xs H Q ⟨x, y, rfl, env, σ, Hf, Os, d1, d2, d, S, l1, l2, e, q⟩
  cases d1 <;> cases d2 <;> try (cases e; done)
  cases e
  exact ⟨_, _, by rw [l1.int, l2.int], q.flat S (.int _)⟩
theorem call_min2D (hc : X.calm = true) : CallR X (.builtin "min") (rC2 X fa (op2 .min2)) := by
  refine CallR.imp (call_min2 hc) ?_
  rintro xs H Q ⟨x, y, rfl, env, σ, Hf, Os, d1, d2, d, S, l1, l2, e, q⟩
  cases d1 <;> cases d2 <;> try (cases e; done)
  cases e
  exact ⟨_, _, by rw [l1.int, l2.int], q.flat S (.int _)⟩
theorem isiB (K : PySem.W.Frag) {t : String} (ht : t ∈ isiTys) (a : String) (ha : a ∈ ["NoneType", "bool", "int", "str", "tuple", "list"]) : PySem.W.kitOne K (.type a) (.type t) = some (a == t || (t == "int" && a == "bool")) := by
  simp only [isiTys, List.mem_cons, List.mem_nil_iff, or_false] at ht ha
  rcases ht with rfl | rfl | rfl | rfl | rfl <;> rcases ha with rfl | rfl | rfl | rfl | rfl | rfl <;> exact kit_ty (by decide +kernel)
theorem call_isiD {t : String} (ht : t ∈ isiTys) : CallR X (.builtin "isinstance") (fun xs H Q => ∃ x, xs = [x, .ty t] ∧ r1 X fa (opIsi t) x H Q) := by
  refine CallR.imp call_isi ?_
  rintro xs H Q ⟨x, rfl, env, σ, Hf, Os, d1, d, S, l1, e, q⟩
  cases d1 <;> try (cases e; done)
  · cases e
    rw [l1.non]
    exact ⟨_, _, _, _, _, rfl, .ty t, .base .non, isiB _ ht "NoneType" (by decide), q.flat S (.bl _)⟩
  · cases e
    rw [l1.bl]
    exact ⟨_, _, _, _, _, rfl, .ty t, .base (.bl _), isiB _ ht "bool" (by decide), q.flat S (.bl _)⟩
  · cases e
    rw [l1.int]
    exact ⟨_, _, _, _, _, rfl, .ty t, .base (.int _), isiB _ ht "int" (by decide), q.flat S (.bl _)⟩
  · cases e
    rw [l1.str]
    exact ⟨_, _, _, _, _, rfl, .ty t, .base (.str _), isiB _ ht "str" (by decide), q.flat S (.bl _)⟩
  · cases e
    obtain ⟨a, vs, rfl, ha, ra⟩ := l1.tup
    have ty : TyX X.K H (.ref a) (.type "tuple") := by
      rcases S.sub.tup ha with (z | ⟨o, z⟩) | ⟨o, its, n, z1, z2, _⟩
      · exact .base (.tup z)
      · exact .fTuple z
      · exact .kTuple z1 z2
    exact ⟨_, _, _, _, _, rfl, .ty t, ty, isiB _ ht "tuple" (by decide), q.flat S (.bl _)⟩
  · cases e
    obtain ⟨a, vs, rfl, ha, ra⟩ := l1.lst' S.sub
    have ty : TyX X.K H (.ref a) (.type "list") := by
      rcases ha with z | ⟨o, z⟩
      · exact .base (.lst z)
      · exact .base (.frz z)
    exact ⟨_, _, _, _, _, rfl, .ty t, ty, isiB _ ht "list" (by decide), q.flat S (.bl _)⟩
theorem mt_joinD : MtR X "str.join" (fun x xs H Q => ∃ y, xs = [y] ∧ r2 X fa opJoin x y H Q) := by
  intro pins s σ H x xs v us Q I rx rs h
  obtain ⟨y, rfl, env, σ', Hf, Os, d1, d2, d, S, l1, l2, e, q⟩ := h
  have key : ∀ (z : List Nat) (ys : List (List Nat)) (p : Addr), l1 = l1 → d1 = .str z → joinOk z ys = .ok d → (SqL X.K H p ((ys.map fun l => (⟨l.toArray⟩ : Str)).map V.str) ∨ SqT X.K H p ((ys.map fun l => (⟨l.toArray⟩ : Str)).map V.str)) → y = .ref p → wpAny (model X.prog X.w) X.A (call (.builtin "str.join") (v :: us)) (EP X pins σ Q) X.xe s := by
    intro z ys p _ e1 e2 hp ey
    subst e1 ey
    obtain ⟨h, e3⟩ := chk_eq_ok e2
    cases e3
    have h := of_decide_eq_true h
    refine mt_join pins s σ H x [.ref p] v us Q I rx rs ⟨⟨z.toArray⟩, p, ys.map fun l => (⟨l.toArray⟩ : Str), l1.str, rfl, hp, ?_, ?_⟩
    · simpa [Str.length, Function.comp_def] using h
    · have w : Txt.join ⟨z.toArray⟩ (ys.map fun l => (⟨l.toArray⟩ : Str)) = ⟨(TL.joinL z ys).toArray⟩ := by
        exact SX.join_S z ys
      rw [w]
      exact q.flat S (.str _)
  cases d1 <;> try (cases d2 <;> cases e; done)
  rename_i z
  cases d2 <;> try (cases e; done)
  · rename_i xs
    obtain ⟨ys, e1, e2⟩ := Out.bind_eq_ok e
    obtain ⟨p, vs, ey, hp, rp⟩ := l2.tup
    have w := rp.strs (ofO_eq_ok e1)
    refine key z ys p rfl rfl e2 (.inr ?_) ey
    rw [List.map_map]
    rw [w] at hp
    exact S.sub.tup hp
  · rename_i xs
    obtain ⟨ys, e1, e2⟩ := Out.bind_eq_ok e
    obtain ⟨p, vs, ey, hp, rp⟩ := l2.lst' S.sub
    have w := rp.strs (ofO_eq_ok e1)
    refine key z ys p rfl rfl e2 (.inl ?_) ey
    rw [List.map_map]
    rw [w] at hp
    exact .inl hp
end
end RE
end

section
set_option linter.all false
set_option maxRecDepth 100000
set_option maxHeartbeats 4000000
/-! RE9: expressions that change nothing. -/
namespace RE
open PySem PySem.Spec PyProof.Rows L2

theorem PE.imp {X : Cx} {e : Expr} {t t' : TE} (h : PE X e t) (i : ∀ σ H Q, t' σ H Q → t σ H Q) : PE X e t' := ⟨fun pins s σ H Q I q => h.run pins s σ H Q I (i _ _ _ q)⟩
theorem PT.imp {X : Cx} {e : Expr} {t t' : TT} (h : PT X e t) (i : ∀ σ H Q, t' σ H Q → t σ H Q) : PT X e t' := ⟨fun pins s σ H Q I q => h.run pins s σ H Q I (i _ _ _ q)⟩
theorem PW.imp {X : Cx} {e : Expr} {t t' : TT} (h : PW X e t) (i : ∀ σ H Q, t' σ H Q → t σ H Q) : PW X e t' := ⟨fun wh pins s σ H Q I q => h.run wh pins s σ H Q I (i _ _ _ q)⟩
theorem PA.imp {X : Cx} {es : List Expr} {t t' : TA} (h : PA X es t) (i : ∀ σ H Q, t' σ H Q → t σ H Q) : PA X es t' := ⟨fun p pins s σ H Q I q => h.run p pins s σ H Q I (i _ _ _ q)⟩
theorem PS.imp {X : Cx} {st : Stmt} {t t' : TS} (h : PS X st t) (i : ∀ D σ H, t' D σ H → t D σ H) : PS X st t' := ⟨fun pins s σ H D I q => h.run pins s σ H D I (i _ _ _ q)⟩
theorem PSs.imp {X : Cx} {st : List Stmt} {t t' : TS} (h : PSs X st t) (i : ∀ D σ H, t' D σ H → t D σ H) : PSs X st t' := ⟨fun pins s σ H D I q => h.run pins s σ H D I (i _ _ _ q)⟩

/-- .. that may be lent -/
def AftL (R : Rc) (env : RE.Env) (σ : L2.St) (Hf H : Hp) (Os : Nat → List Addr) (d : D) (Q : VK) : Prop :=
  ∀ v Hf' H', Sim R env σ Hf' H' Os → Stp W0 Hf H Hf' H' → Ld R Hf' H' v d → Q v H'
def AftA (R : Rc) (env : RE.Env) (σ : L2.St) (Hf H : Hp) (Os : Nat → List Addr) (ds : List D) (Q : List V → Hp → Prop) : Prop :=
  ∀ vs Hf' H', Sim R env σ Hf' H' Os → Stp W0 Hf H Hf' H' → RpA R Hf' vs ds → Q vs H'
def AftLA (R : Rc) (env : RE.Env) (σ : L2.St) (Hf H : Hp) (Os : Nat → List Addr) (ds : List D) (Q : List V → Hp → Prop) : Prop :=
  ∀ vs Hf' H', Sim R env σ Hf' H' Os → Stp W0 Hf H Hf' H' → LdA R Hf' H' vs ds → Q vs H'
section
variable {R : Rc} {env : RE.Env} {σ : L2.St} {Hf H Hf1 H1 : Hp} {Os : Nat → List Addr}
theorem Aft.move {d : D} {Q : VK} (h : Aft R env σ Hf H Os d Q) (st : Stp W0 Hf H Hf1 H1) : Aft R env σ Hf1 H1 Os d Q := fun v Hf' H' S s r => h v Hf' H' S (st.trans s) r
theorem AftL.move {d : D} {Q : VK} (h : AftL R env σ Hf H Os d Q) (st : Stp W0 Hf H Hf1 H1) : AftL R env σ Hf1 H1 Os d Q := fun v Hf' H' S s r => h v Hf' H' S (st.trans s) r
theorem AftF.move {ds : List D} {Q : VK} (h : AftF R env σ Hf H Os ds Q) (st : Stp W0 Hf H Hf1 H1) : AftF R env σ Hf1 H1 Os ds Q := fun p vs Hf' H' S s n nf e r no =>
  h p vs Hf' H' S (st.trans s) (by
    cases q : H p with
    | none => rfl
    | some o => exact absurd n (st.st p (by rw [q]; exact fun z => nomatch z))) nf e r no
theorem AftL.aft {d : D} {Q : VK} (h : AftL R env σ Hf H Os d Q) : Aft R env σ Hf H Os d Q := fun v Hf' H' S s r => h v Hf' H' S s (.rp r)
end

section
variable (X : Cx) (fa : Nat → Option Addr)
def tP (f : RE.Env → Out D) : TE := fun σ H Q => ∃ env Hf Os d, Sim (rc X fa) env σ Hf H Os ∧ f env = .ok d ∧ Aft (rc X fa) env σ Hf H Os d Q
def tL (f : RE.Env → Out D) : TE := fun σ H Q => ∃ env Hf Os d, Sim (rc X fa) env σ Hf H Os ∧ f env = .ok d ∧ AftL (rc X fa) env σ Hf H Os d Q
def tF (f : RE.Env → Out (List D)) : TE := fun σ H Q => ∃ env Hf Os d, Sim (rc X fa) env σ Hf H Os ∧ f env = .ok d ∧ AftF (rc X fa) env σ Hf H Os d Q
def tPs (f : RE.Env → Out (List D)) : TA := fun σ H Q => ∃ env Hf Os d, Sim (rc X fa) env σ Hf H Os ∧ f env = .ok d ∧ AftA (rc X fa) env σ Hf H Os d Q
def tLs (f : RE.Env → Out (List D)) : TA := fun σ H Q => ∃ env Hf Os d, Sim (rc X fa) env σ Hf H Os ∧ f env = .ok d ∧ AftLA (rc X fa) env σ Hf H Os d Q
def tT (f : RE.Env → Out D) : TT := fun σ H Q => ∃ env Hf Os d b, Sim (rc X fa) env σ Hf H Os ∧ f env = .ok d ∧ truth d = some b ∧ ∀ Hf' H', Sim (rc X fa) env σ Hf' H' Os → Stp W0 Hf H Hf' H' → Q b H'
end
section
variable {X : Cx} {fa : Nat → Option Addr} {e a b c : Expr} {es : List Expr} {pos : Pos} {f g h : RE.Env → Out D}
/-- a proper value may be looked at -/
theorem pl_of (p : PE X e (tP X fa f)) : PE X e (tL X fa f) := PE.imp p fun σ H Q ⟨env, Hf, Os, d, S, e, q⟩ => ⟨env, Hf, Os, d, S, e, q.aft⟩
theorem pp_F {f : RE.Env → Out (List D)} (p : PE X e (tF X fa f)) : PE X e (tP X fa fun env => (f env).bind fun ds => .ok (.lst ds)) := PE.imp p fun σ H Q ⟨env, Hf, Os, d, S, e, q⟩ => by
  obtain ⟨ds, e1, e2⟩ := Out.bind_eq_ok e
  cases e2
  exact ⟨env, Hf, Os, ds, S, e1, q.ofF⟩
theorem pp_con {v : V} {d : D} (p : PE X e (tC v)) (r : ∀ (R : Rc) (Hf : Hp), Rp R Hf v d) : PE X e (tP X fa fun _ => .ok d) := PE.imp p fun σ H Q ⟨env, Hf, Os, d', S, e, q⟩ => by
  cases e
  exact q.flat S (r _ _)
theorem pp_conK {v : V} {d : D} (p : PE X e (tC v)) (r : ∀ (Hf : Hp), Rp (rc X fa) Hf v d) : PE X e (tP X fa fun _ => .ok d) := PE.imp p fun σ H Q ⟨env, Hf, Os, d', S, e, q⟩ => by
  cases e
  exact q.flat S (r _)
theorem slot_get {R : Rc} {env : RE.Env} {σ : L2.St} {Hf H : Hp} {Os : Nat → List Addr} (S : Sim R env σ Hf H Os) (i : Nat) (h : getS env i ≠ .no) : ∃ sv, σ[i]? = some sv ∧ SlotOk R Hf H (Os i) (getS env i) sv := by
  by_cases hi : i < env.length
  · have e : env[i]? = some (getS env i) := by
      unfold getS
      rw [List.getD_eq_getElem?_getD, List.getElem?_eq_getElem hi]
      rfl
    exact S.slot i _ e
  · exact absurd (by unfold getS; rw [List.getD_eq_getElem?_getD, List.getElem?_eq_none (by omega)]; rfl) h
theorem pp_var {i : Nat} (p : PE X e (tVar i)) : PE X e (tP X fa fun env => match getS env i with | .val d => .ok d | _ => .bad) := PE.imp p fun σ H Q ⟨env, Hf, Os, d, S, e, q⟩ => by
  cases hs : getS env i with
  | val d' =>
    simp only [hs] at e
    cases e
    obtain ⟨sv, e1, h⟩ := slot_get S i (by rw [hs]; exact fun z => nomatch z)
    rw [hs] at h
    obtain ⟨_, v, e2, r⟩ := h
    exact ⟨v, by rw [e1, e2], q.flat S r⟩
  | no => simp only [hs] at e; cases e
  | own o => simp only [hs] at e; cases e
  | lent o => simp only [hs] at e; cases e
theorem own_ld {R : Rc} {Hf H : Hp} {o : Own} {a : Addr} {O : List Addr} {d : D} (h : OwnAt R Hf H o a O) (e : lend (.own o) = .ok d) : Ld R Hf H (.ref a) d := by
  cases o with
  | lst xs => cases e; obtain ⟨_, vs, h1, h2⟩ := h; exact .lst h1 h2
  | lls xss => cases e
  | dic t kvs =>
    cases t with
    | false => cases e; obtain ⟨_, ks, h1, h2⟩ := h; exact .dK h1 h2
    | true => cases e; obtain ⟨_, ks, h1, h2, h3⟩ := h; exact .dT h1 h2 h3
theorem pl_bvar {i : Nat} (p : PE X e (tVar i)) : PE X e (tL X fa fun env => lend (getS env i)) := PE.imp p fun σ H Q ⟨env, Hf, Os, d, S, e, q⟩ => by
  have e : lend (getS env i) = .ok d := e
  cases hs : getS env i with
  | val d' =>
    rw [hs] at e
    cases e
    obtain ⟨sv, e1, h⟩ := slot_get S i (by rw [hs]; exact fun z => nomatch z)
    rw [hs] at h
    obtain ⟨_, v, e2, r⟩ := h
    exact ⟨v, by rw [e1, e2], q v Hf H S (Stp.refl _ _ _) (.rp r)⟩
  | no => rw [hs] at e; cases e
  | own o =>
    rw [hs] at e
    obtain ⟨sv, e1, h⟩ := slot_get S i (by rw [hs]; exact fun z => nomatch z)
    rw [hs] at h
    obtain ⟨a, e2, r⟩ := h
    exact ⟨.ref a, by rw [e1, e2], q _ Hf H S (Stp.refl _ _ _) (own_ld r e)⟩
  | lent o =>
    rw [hs] at e
    obtain ⟨sv, e1, h⟩ := slot_get S i (by rw [hs]; exact fun z => nomatch z)
    rw [hs] at h
    obtain ⟨a, e2, r⟩ := h
    have e : lend (.own o) = .ok d := by cases o <;> exact e
    exact ⟨.ref a, by rw [e1, e2], q _ Hf H S (Stp.refl _ _ _) (own_ld r e)⟩

/-! ### lists of expressions -/
theorem pas_nil : PA X [] (tPs X fa fun _ => .ok []) := PA.imp pa_nil fun σ H Q ⟨env, Hf, Os, d, S, e, q⟩ => by
  cases e
  exact q [] Hf H S (Stp.refl _ _ _) .nil
theorem pls_nil : PA X [] (tLs X fa fun _ => .ok []) := PA.imp pa_nil fun σ H Q ⟨env, Hf, Os, d, S, e, q⟩ => by
  cases e
  exact q [] Hf H S (Stp.refl _ _ _) .nil
theorem pas_cons {fs : RE.Env → Out (List D)} (p : PE X e (tP X fa f)) (ps : PA X es (tPs X fa fs)) (hs : starEach (e :: es) X.env = (false, eval e X.env) :: starEach es X.env) :
    PA X (e :: es) (tPs X fa fun env => (f env).bind fun d => (fs env).bind fun ds => .ok (d :: ds)) := PA.imp (pa_cons p ps hs) fun σ H Q ⟨env, Hf, Os, d, S, e, q⟩ => by
  obtain ⟨d1, e1, e⟩ := Out.bind_eq_ok e
  obtain ⟨ds, e2, e⟩ := Out.bind_eq_ok e
  cases e
  refine ⟨env, Hf, Os, d1, S, e1, fun v Hf1 H1 S1 st1 r1 => ⟨env, Hf1, Os, ds, S1, e2, fun vs Hf2 H2 S2 st2 r2 => ?_⟩⟩
  exact q _ Hf2 H2 S2 (st1.trans st2) (.cons (r1.sub (sameSub st2.fr)) r2)
theorem pls_cons {fs : RE.Env → Out (List D)} (p : PE X e (tL X fa f)) (ps : PA X es (tLs X fa fs)) (hs : starEach (e :: es) X.env = (false, eval e X.env) :: starEach es X.env) :
    PA X (e :: es) (tLs X fa fun env => (f env).bind fun d => (fs env).bind fun ds => .ok (d :: ds)) := PA.imp (pa_cons p ps hs) fun σ H Q ⟨env, Hf, Os, d, S, e, q⟩ => by
  obtain ⟨d1, e1, e⟩ := Out.bind_eq_ok e
  obtain ⟨ds, e2, e⟩ := Out.bind_eq_ok e
  cases e
  refine ⟨env, Hf, Os, d1, S, e1, fun v Hf1 H1 S1 st1 r1 => ⟨env, Hf1, Os, ds, S1, e2, fun vs Hf2 H2 S2 st2 r2 => ?_⟩⟩
  exact q _ Hf2 H2 S2 (st1.trans st2) (.cons (r1.mono st2.fr st2.same) r2)
/-- (a, b, ..), at most 1000 -/
theorem pp_tup {fs : RE.Env → Out (List D)} {k : Nat} (ps : PA X es (tPs X fa fs)) (hl : ∀ env ds, fs env = .ok ds → ds.length ≤ 1000) : PE X (.Tuple es k pos) (tP X fa fun env => (fs env).bind fun ds => .ok (.tup ds)) :=
  PE.imp (pe_tup ps) fun σ H Q ⟨env, Hf, Os, d, S, e, q⟩ => by
    obtain ⟨ds, e1, e⟩ := Out.bind_eq_ok e
    cases e
    refine ⟨env, Hf, Os, ds, S, e1, fun vs Hf1 H1 S1 st1 r1 => ⟨?_, fun p n => ?_⟩⟩
    · rw [r1.length]
      exact Nat.le_of_lt (small1000 (hl _ _ e1))
    · exact (q.move st1).newTup S1 r1 n
theorem pf_lst {fs : RE.Env → Out (List D)} (ps : PA X es (tPs X fa fs)) (hl : ∀ env ds, fs env = .ok ds → ds.length ≤ 1000) : PE X (.List es pos) (tF X fa fs) :=
  PE.imp (pe_lst ps) fun σ H Q ⟨env, Hf, Os, ds, S, e1, q⟩ => by
    refine ⟨env, Hf, Os, ds, S, e1, fun vs Hf1 H1 S1 st1 r1 => ⟨?_, fun p n => ?_⟩⟩
    · rw [r1.length]
      exact Nat.le_of_lt (small1000 (hl _ _ e1))
    · exact (q.move st1).new S1 r1 n

/-! ### operations -/
theorem bin_imp {go : D → D → Out D} {σ : L2.St} {H : Hp} {Q : VK} (h : tP X fa (fun env => (f env).bind fun x => (g env).bind fun y => go x y) σ H Q) : tOp (r2 X fa go) (tL X fa f) (tL X fa g) σ H Q := by
  obtain ⟨env, Hf, Os, d, S, e, q⟩ := h
  obtain ⟨d1, e1, e⟩ := Out.bind_eq_ok e
  obtain ⟨d2, e2, e⟩ := Out.bind_eq_ok e
  refine ⟨env, Hf, Os, d1, S, e1, fun v Hf1 H1 S1 st1 r1 => ⟨env, Hf1, Os, d2, S1, e2, fun u Hf2 H2 S2 st2 r2 => ?_⟩⟩
  exact ⟨env, σ, Hf2, Os, d1, d2, d, S2, r1.mono st2.fr st2.same, r2, e, q.move (st1.trans st2)⟩
theorem pp_bin {o : Operator} {go : D → D → Out D} (ho : OpR X (binaryOp o) (r2 X fa go)) (p : PE X a (tL X fa f)) (p' : PE X b (tL X fa g)) : PE X (.BinOp a o b pos) (tP X fa fun env => (f env).bind fun x => (g env).bind fun y => go x y) :=
  PE.imp (pe_op ho p p') fun _ _ _ h => bin_imp h
theorem pp_cmp {o : CmpOp} {go : D → D → Out D} (ho : OpR X (compareOp o) (r2 X fa go)) (p : PE X a (tL X fa f)) (p' : PE X b (tL X fa g)) (hm : behindInMarks o b = false) : PE X (.Compare a [o] [b] pos) (tP X fa fun env => (f env).bind fun x => (g env).bind fun y => go x y) :=
  PE.imp (pe_cmpR ho p p' hm) fun _ _ _ h => bin_imp h
theorem pp_ix (hr : IxR X (r2 X fa opIdx)) (p : PE X a (tL X fa f)) (p' : PE X b (tL X fa g)) (hs : PlainIx b) : PE X (.Subscript a b pos) (tP X fa fun env => (f env).bind fun x => (g env).bind fun y => opIdx x y) :=
  PE.imp (pe_ix hr p p' hs) fun _ _ _ h => bin_imp h
theorem un_imp {go : D → Out D} {σ : L2.St} {H : Hp} {Q : VK} (h : tP X fa (fun env => (f env).bind go) σ H Q) : tUn (r1 X fa go) (tL X fa f) σ H Q := by
  obtain ⟨env, Hf, Os, d, S, e, q⟩ := h
  obtain ⟨d1, e1, e⟩ := Out.bind_eq_ok e
  exact ⟨env, Hf, Os, d1, S, e1, fun v Hf1 H1 S1 st1 r1 => ⟨env, σ, Hf1, Os, d1, d, S1, r1, e, q.move st1⟩⟩
theorem pp_un {o : UnaryOp} {go : D → Out D} (ho : UnR X (unaryOp o) (r1 X fa go)) (p : PE X a (tL X fa f)) : PE X (.UnaryOp o a pos) (tP X fa fun env => (f env).bind go) :=
  PE.imp (pe_un ho p) fun _ _ _ h => un_imp h
theorem pp_isN {j : Nat} {p2 : Pos} (p : PE X a (tL X fa f)) : PE X (.Compare a [.Is] [.Constant .none j p2] pos) (tP X fa fun env => (f env).bind (op1 .isN)) :=
  PE.imp (pe_cmp (pc_isN p)) fun σ H Q ⟨env, Hf, Os, d, S, e, q⟩ => by
    obtain ⟨d1, e1, e⟩ := Out.bind_eq_ok e
    cases e
    refine ⟨env, Hf, Os, d1, S, e1, fun v Hf1 H1 S1 st1 r1 => ?_⟩
    dsimp only
    rw [isN_ld r1]
    exact (q.move st1).flat S1 (.bl _)
theorem pp_notN {j : Nat} {p2 : Pos} (p : PE X a (tL X fa f)) : PE X (.Compare a [.IsNot] [.Constant .none j p2] pos) (tP X fa fun env => (f env).bind (op1 .isntN)) :=
  PE.imp (pe_cmp (pc_notN p)) fun σ H Q ⟨env, Hf, Os, d, S, e, q⟩ => by
    obtain ⟨d1, e1, e⟩ := Out.bind_eq_ok e
    cases e
    refine ⟨env, Hf, Os, d1, S, e1, fun v Hf1 H1 S1 st1 r1 => ?_⟩
    dsimp only
    rw [isN_ld r1]
    exact (q.move st1).flat S1 (.bl _)
/-- a < b < c -/
theorem pp_chain {o o' : CmpOp} {go go' : D → D → Out D} (ho : OpR X (compareOp o) (r2 X fa go)) (ho' : OpR X (compareOp o') (r2 X fa go')) (p : PE X a (tL X fa f)) (p' : PE X b (tL X fa g)) (p'' : PE X c (tL X fa h)) (hl : lastMarks [o, o'] [b, c] = false) :
    PE X (.Compare a [o, o'] [b, c] pos) (tP X fa fun env => (f env).bind fun x => (g env).bind fun y => (go x y).bind fun z => match z with
      | .bl true => (h env).bind fun w => go' y w
      | .bl false => .ok (.bl false)
      | _ => .bad) := by
  refine PE.imp (pe_chain ho ho' p p' p'' hl) ?_
  rintro σ H Q ⟨env, Hf, Os, d, S, e, q⟩
  obtain ⟨d1, e1, e⟩ := Out.bind_eq_ok e
  obtain ⟨d2, e2, e⟩ := Out.bind_eq_ok e
  obtain ⟨d3, e3, e⟩ := Out.bind_eq_ok e
  refine ⟨env, Hf, Os, d1, S, e1, fun v Hf1 H1 S1 st1 r1 => ⟨env, Hf1, Os, d2, S1, e2, fun u Hf2 H2 S2 st2 r2 => ?_⟩⟩
  refine ⟨env, σ, Hf2, Os, d1, d2, d3, S2, r1.mono st2.fr st2.same, r2, e3, fun z Hf3 H3 S3 st3 r3 => ?_⟩
  cases d3 <;> try (cases e; done)
  rename_i k
  cases r3
  refine ⟨k, rfl, ?_⟩
  cases k with
  | true =>
    obtain ⟨d4, e4, e⟩ := Out.bind_eq_ok e
    rw [if_pos rfl]
    exact ⟨env, Hf3, Os, d4, S3, e4, fun y Hf4 H4 S4 st4 r4 => ⟨env, σ, Hf4, Os, d2, d4, d, S4, (r2.mono st3.fr st3.same).mono st4.fr st4.same, r4, e, q.move (((st1.trans st2).trans st3).trans st4)⟩⟩
  | false =>
    cases e
    rw [if_neg Bool.false_ne_true]
    exact (q.move ((st1.trans st2).trans st3)).flat S3 (.bl _)
end
end RE
end

section
set_option linter.all false
set_option maxRecDepth 100000
set_option maxHeartbeats 4000000
/-! RE10: and, or, not; tests; built-in calls; slices; dict displays. -/
namespace RE
open PySem PySem.Spec PyProof.Rows L2
section
variable {X : Cx} {fa : Nat → Option Addr} {e a b c : Expr} {es rest : List Expr} {pos : Pos} {f g h : RE.Env → Out D}
/-! ### and, or, not -/
abbrev fAnd (f g : RE.Env → Out D) : RE.Env → Out D := fun env => (f env).bind fun x => (ofO (truth x)).bind fun c => match c with
  | true => g env
  | false => .ok x
abbrev fOr (f g : RE.Env → Out D) : RE.Env → Out D := fun env => (f env).bind fun x => (ofO (truth x)).bind fun c => match c with
  | true => .ok x
  | false => g env
abbrev fNot (f : RE.Env → Out D) : RE.Env → Out D := fun env => (f env).bind fun x => (ofO (truth x)).bind fun c => .ok (.bl (!c))
abbrev fIte (f g h : RE.Env → Out D) : RE.Env → Out D := fun env => (f env).bind fun x => (ofO (truth x)).bind fun t => match t with
  | true => g env
  | false => h env
theorem pp_and (p : PE X a (tP X fa f)) (p' : PE X (.BoolOp .And (b :: rest) pos) (tP X fa g)) : PE X (.BoolOp .And (a :: b :: rest) pos) (tP X fa (fAnd f g)) := PE.imp (pe_andT p p') fun σ H Q ⟨env, Hf, Os, d, S, e, q⟩ => by
  obtain ⟨d1, e1, e⟩ := Out.bind_eq_ok e
  obtain ⟨k, e2, e⟩ := Out.bind_eq_ok e
  refine ⟨env, Hf, Os, d1, S, e1, fun v Hf1 H1 S1 st1 r1 => ⟨k, truV_of S1 (.rp r1) (ofO_eq_ok e2), ?_⟩⟩
  cases k with
  | true => exact ⟨env, Hf1, Os, d, S1, e, q.move st1⟩
  | false => cases e; exact (q.move st1).flat S1 r1
theorem pp_or (p : PE X a (tP X fa f)) (p' : PE X (.BoolOp .Or (b :: rest) pos) (tP X fa g)) : PE X (.BoolOp .Or (a :: b :: rest) pos) (tP X fa (fOr f g)) := PE.imp (pe_orT p p') fun σ H Q ⟨env, Hf, Os, d, S, e, q⟩ => by
  obtain ⟨d1, e1, e⟩ := Out.bind_eq_ok e
  obtain ⟨k, e2, e⟩ := Out.bind_eq_ok e
  refine ⟨env, Hf, Os, d1, S, e1, fun v Hf1 H1 S1 st1 r1 => ⟨k, truV_of S1 (.rp r1) (ofO_eq_ok e2), ?_⟩⟩
  cases k with
  | true => cases e; exact (q.move st1).flat S1 r1
  | false => exact ⟨env, Hf1, Os, d, S1, e, q.move st1⟩
theorem pp_not (p : PE X a (tL X fa f)) : PE X (.UnaryOp .Not a pos) (tP X fa (fNot f)) := PE.imp (pe_notT p) fun σ H Q ⟨env, Hf, Os, d, S, e, q⟩ => by
  obtain ⟨d1, e1, e⟩ := Out.bind_eq_ok e
  obtain ⟨k, e2, e⟩ := Out.bind_eq_ok e
  cases e
  exact ⟨env, Hf, Os, d1, S, e1, fun v Hf1 H1 S1 st1 r1 => ⟨k, truV_of S1 r1 (ofO_eq_ok e2), (q.move st1).flat S1 (.bl _)⟩⟩

/-! ### tests -/
theorem pt_gen (p : PE X e (tL X fa f)) (he : ∀ whole, isTrue e X.env whole = (do let v ← whole; standAt e.pos; holding [v] (truthy v))) : PT X e (tT X fa f) := by
  refine ⟨fun pins s σ H Q I hw => ?_⟩
  obtain ⟨env, Hf, Os, d, b, S, e1, e2, q⟩ := hw
  refine isTrue_plain (thn (p.run pins s σ H _ I ⟨env, Hf, Os, d, S, e1, fun v Hf1 H1 S1 st1 r1 => (⟨env, Hf1, Os, d, b, S1, r1, e2, q Hf1 H1 S1 st1⟩ : ∃ env Hf Os d b, Sim (rc X fa) env σ Hf H1 Os ∧ Ld (rc X fa) Hf H1 v d ∧ truth d = some b ∧ Q b H1)⟩) fun v s1 ⟨x, H1, I1, r1, q1⟩ => ?_) (he _)
  obtain ⟨env, Hf, Os, d, b, S, l, e2, q⟩ := q1
  exact tru_all pins s1 σ H1 x v Q I1 r1 ⟨env, σ, Hf, Os, d, b, S, l, e2, q⟩
theorem ptw_and1 (p : PT X a (tT X fa f)) : PW X (.BoolOp .And [a] pos) (tT X fa f) := pw_and1 p
theorem ptw_or1 (p : PT X a (tT X fa f)) : PW X (.BoolOp .Or [a] pos) (tT X fa f) := pw_or1 p
theorem ptw_and (p : PT X a (tT X fa f)) (p' : PW X (.BoolOp .And (b :: rest) pos) (tT X fa g)) : PW X (.BoolOp .And (a :: b :: rest) pos) (tT X fa (fAnd f g)) := PW.imp (pw_and p p') fun σ H Q ⟨env, Hf, Os, d, k, S, e, e9, q⟩ => by
  obtain ⟨d1, e1, e⟩ := Out.bind_eq_ok e
  obtain ⟨j, e2, e⟩ := Out.bind_eq_ok e
  refine ⟨env, Hf, Os, d1, j, S, e1, ofO_eq_ok e2, fun Hf1 H1 S1 st1 => ?_⟩
  cases j with
  | true => exact ⟨env, Hf1, Os, d, k, S1, e, e9, fun Hf2 H2 S2 st2 => q Hf2 H2 S2 (st1.trans st2)⟩
  | false =>
    cases e
    rw [ofO_eq_ok e2] at e9
    cases e9
    exact q Hf1 H1 S1 st1
theorem ptw_or (p : PT X a (tT X fa f)) (p' : PW X (.BoolOp .Or (b :: rest) pos) (tT X fa g)) : PW X (.BoolOp .Or (a :: b :: rest) pos) (tT X fa (fOr f g)) := PW.imp (pw_or p p') fun σ H Q ⟨env, Hf, Os, d, k, S, e, e9, q⟩ => by
  obtain ⟨d1, e1, e⟩ := Out.bind_eq_ok e
  obtain ⟨j, e2, e⟩ := Out.bind_eq_ok e
  refine ⟨env, Hf, Os, d1, j, S, e1, ofO_eq_ok e2, fun Hf1 H1 S1 st1 => ?_⟩
  cases j with
  | true =>
    cases e
    rw [ofO_eq_ok e2] at e9
    cases e9
    exact q Hf1 H1 S1 st1
  | false => exact ⟨env, Hf1, Os, d, k, S1, e, e9, fun Hf2 H2 S2 st2 => q Hf2 H2 S2 (st1.trans st2)⟩
theorem ptt_not (p : PT X a (tT X fa f)) : PT X (.UnaryOp .Not a pos) (tT X fa (fNot f)) := PT.imp (pt_not p) fun σ H Q ⟨env, Hf, Os, d, k, S, e, e9, q⟩ => by
  obtain ⟨d1, e1, e⟩ := Out.bind_eq_ok e
  obtain ⟨j, e2, e⟩ := Out.bind_eq_ok e
  cases e
  cases e9
  exact ⟨env, Hf, Os, d1, j, S, e1, ofO_eq_ok e2, q⟩
/-- a comparison as a test -/
theorem ptt_bin {o : CmpOp} {go : D → D → Out D} (ho : OpR X (compareOp o) (r2 X fa go)) (p : PE X a (tL X fa f)) (p' : PE X b (tL X fa g)) (hm : behindInMarks o b = false) (hb : ∀ x y d, go x y = .ok d → ∃ k, d = .bl k) : PT X (.Compare a [o] [b] pos) (tT X fa fun env => (f env).bind fun x => (g env).bind fun y => go x y) := by
  refine PT.imp (pt_cmpR ho p p' hm) ?_
  rintro σ H Q ⟨env, Hf, Os, d, k, S, e, e9, q⟩
  have e0 := e
  obtain ⟨d1, e1, e⟩ := Out.bind_eq_ok e
  obtain ⟨d2, e2, e⟩ := Out.bind_eq_ok e
  obtain ⟨j, rfl⟩ := hb _ _ _ e
  have e9 : j = k := Option.some.inj e9
  subst e9
  refine bin_imp ⟨env, Hf, Os, .bl j, S, e0, fun v Hf1 H1 S1 st1 r1 => ?_⟩
  cases r1
  exact ⟨j, rfl, q Hf1 H1 S1 st1⟩
theorem ptt_isN {j : Nat} {p2 : Pos} (p : PE X a (tL X fa f)) : PT X (.Compare a [.Is] [.Constant .none j p2] pos) (tT X fa fun env => (f env).bind (op1 .isN)) := PT.imp (pt_cmp (pc_isN p)) fun σ H Q ⟨env, Hf, Os, d, k, S, e, e9, q⟩ => by
  obtain ⟨d1, e1, e⟩ := Out.bind_eq_ok e
  cases e
  cases e9
  refine ⟨env, Hf, Os, d1, S, e1, fun v Hf1 H1 S1 st1 r1 => ⟨_, rfl, ?_⟩⟩
  rw [isN_ld r1]
  exact q Hf1 H1 S1 st1
theorem ptt_notN {j : Nat} {p2 : Pos} (p : PE X a (tL X fa f)) : PT X (.Compare a [.IsNot] [.Constant .none j p2] pos) (tT X fa fun env => (f env).bind (op1 .isntN)) := PT.imp (pt_cmp (pc_notN p)) fun σ H Q ⟨env, Hf, Os, d, k, S, e, e9, q⟩ => by
  obtain ⟨d1, e1, e⟩ := Out.bind_eq_ok e
  cases e
  cases e9
  refine ⟨env, Hf, Os, d1, S, e1, fun v Hf1 H1 S1 st1 r1 => ⟨_, rfl, ?_⟩⟩
  rw [isN_ld r1]
  exact q Hf1 H1 S1 st1
theorem pp_ite (p : PT X c (tT X fa f)) (p' : PE X a (tP X fa g)) (p'' : PE X b (tP X fa h)) : PE X (.IfExp c a b pos) (tP X fa (fIte f g h)) := PE.imp (pe_ifExp p p' p'') fun σ H Q ⟨env, Hf, Os, d, S, e, q⟩ => by
  obtain ⟨d1, e1, e⟩ := Out.bind_eq_ok e
  obtain ⟨k, e2, e⟩ := Out.bind_eq_ok e
  refine ⟨env, Hf, Os, d1, k, S, e1, ofO_eq_ok e2, fun Hf1 H1 S1 st1 => ?_⟩
  cases k with
  | true => exact ⟨env, Hf1, Os, d, S1, e, q.move st1⟩
  | false => exact ⟨env, Hf1, Os, d, S1, e, q.move st1⟩
theorem ptt_ite (p : PT X c (tT X fa f)) (p' : PT X a (tT X fa g)) (p'' : PT X b (tT X fa h)) : PT X (.IfExp c a b pos) (tT X fa (fIte f g h)) := by
  refine ⟨fun pins s σ H Q I hw => ?_⟩
  obtain ⟨env, Hf, Os, d, k, S, e, e9, q⟩ := hw
  obtain ⟨d1, e1, e⟩ := Out.bind_eq_ok e
  obtain ⟨j, e2, e⟩ := Out.bind_eq_ok e
  refine isTrue_IfExp (thn (p.run pins s σ H (fun b H1 => b = j ∧ ∃ Hf1, Sim (rc X fa) env σ Hf1 H1 Os ∧ Stp W0 Hf H Hf1 H1) I ⟨env, Hf, Os, d1, j, S, e1, ofO_eq_ok e2, fun Hf1 H1 S1 st1 => ⟨rfl, Hf1, S1, st1⟩⟩) fun t s1 ⟨H1, I1, et, Hf1, S1, st1⟩ => ?_)
  subst et
  cases t with
  | true => exact p'.run pins s1 σ H1 Q I1 ⟨env, Hf1, Os, d, k, S1, e, e9, fun Hf2 H2 S2 st2 => q Hf2 H2 S2 (st1.trans st2)⟩
  | false => exact p''.run pins s1 σ H1 Q I1 ⟨env, Hf1, Os, d, k, S1, e, e9, fun Hf2 H2 S2 st2 => q Hf2 H2 S2 (st1.trans st2)⟩
end
end RE
end

section
set_option linter.all false
set_option maxRecDepth 100000
set_option maxHeartbeats 4000000
/-! RE11: slices, backwards too; calls. -/
namespace RE
open PySem PySem.Spec PyProof.Rows L2

/-! ### e[::-1] -/
section
variable {prog : Program} {w : World} {A : Around} {E : Value → Shared → Prop} {s : Shared}
theorem adjust_rev (n : Nat) : Builtin.Slice.sliceAdjust none none (-1) (n : Int) = ((n : Int) - 1, -1) := by
  unfold Builtin.Slice.sliceAdjust
  have h1 : ((-1 : Int) < 0) := by decide
  simp only [h1, if_true]
theorem places_rev (n : Nat) : Builtin.Slice.slicePlaces ((n : Int) - 1) (-1) (-1) = n := by
  unfold Builtin.Slice.slicePlaces
  have h1 : ¬ ((-1 : Int) > 0) := by decide
  simp only [h1, if_false]
  split
  · have : ((n : Int) - 1 - -1 - 1) / - -1 + 1 = (n : Int) := by
      rw [show (- -1 : Int) = 1 by decide, Int.ediv_one]
      omega
    rw [this, Int.toNat_natCast]
  · omega
theorem pick_rev (xs : Array Value) : ((List.range xs.size).filterMap fun (k : Nat) => xs[((xs.size : Int) - 1 + (k : Int) * (-1)).toNat]?).toArray = xs.toList.reverse.toArray := by
  have e : ((List.range xs.size).filterMap fun (k : Nat) => xs[((xs.size : Int) - 1 + (k : Int) * (-1)).toNat]?) = ((List.range xs.size).map fun k => xs.size - 1 - k).filterMap (xs[·]?) := by
    rw [List.filterMap_map]
    congr 1
    funext k
    show _ = xs[xs.size - 1 - k]?
    have : ((xs.size : Int) - 1 + (k : Int) * (-1)).toNat = xs.size - 1 - k := by omega
    rw [this]
  rw [e, PySem.W.krv_range, List.filterMap_reverse, PySem.W.krv_all]
theorem sliceApplied_rev {sl : Addr} {n : Nat} {vl vu vs : Value} {Q : Int × Int × Nat → Shared → Prop} (hs : s.heap.IsSliceOf sl vl vu vs) (pl : IsPart vl none) (pu : IsPart vu none) (ps : IsPart vs (some (-1))) (h : Q ((n : Int) - 1, -1, n) s) :
    wpAny (model prog w) A (Builtin.Slice.sliceApplied (.ref sl) (pure (n : Int))) Q E s := by
  obtain ⟨os, hos, hcs, hds⟩ := id hs
  unfold Builtin.Slice.sliceApplied Builtin.Slice.sliceFields
  refine wpAny_bind (wpAny_bind (wpAny_field hos hds (x := vl) rfl (wpAny_bind (wpAny_field hos hds (x := vu) rfl (wpAny_bind (wpAny_field hos hds (x := vs) rfl (wpAny_pure ?_)))))))
  refine wpAny_bind (HT.slicePart_ ps ?_)
  show wpAny _ _ (if ((-1 : Int) == 0) = true then _ else _) _ _ s
  rw [if_neg (by decide)]
  refine wpAny_bind (HT.slicePart_ pl (wpAny_bind (HT.slicePart_ pu (wpAny_bind (wpAny_pure ?_)))))
  show wpAny _ _ (match Builtin.Slice.sliceAdjust none none (-1) (n : Int) with | (lo, hi) => pure (lo, (-1 : Int), Builtin.Slice.slicePlaces lo hi (-1))) _ _ s
  rw [adjust_rev n]
  show wpAny _ _ (pure ((n : Int) - 1, (-1 : Int), Builtin.Slice.slicePlaces ((n : Int) - 1) (-1) (-1))) _ _ s
  rw [places_rev n]
  exact wpAny_pure h
theorem getItem_tuple_rev {t sl : Addr} {items : Array Value} {vl vu vs : Value} {Q : Value → Shared → Prop} (ht : IsTup s.heap t items) (hs : s.heap.IsSliceOf sl vl vu vs) (pl : IsPart vl none) (pu : IsPart vu none) (ps : IsPart vs (some (-1)))
    (h : Q (.ref s.heap.objs.size) { s with heap := s.heap.push { cls := .type "tuple", data := .seq items.toList.reverse.toArray } }) (hsz : items.size ≤ sizeLine) : wpAny (model prog w) A (getItem (.ref t) (.ref sl)) Q E s := by
  have hok : sizeOk (.seq items.toList.reverse.toArray) := by
    show items.toList.reverse.toArray.size ≤ sizeLine
    rw [List.size_toArray, List.length_reverse, Array.length_toList]
    exact hsz
  obtain ⟨os, hos, hcs, hds⟩ := id hs
  have hTs : s.TypeIs (.ref sl) "slice" := ⟨os, hos, hcs⟩
  unfold getItem
  try with_reducible refine wpAny_holding ?_
  first | refine wpAny_bind (wpAny_pure ?_) | skip
  refine wpAny_bind (wpAny_sequenceKey ht.typeIs (by decide) ?_)
  refine wpAny_bind (wpAny_callSpecial?_slot (name := Str.ofString "__getitem__") ht.typeIs PyProof.Rows.slot_tuple_getitem
    (wpAny_call_entry PyProof.Rows.slot_tuple_getitem ht.typeIs entry_tuple_getitem ?_ (args_tuple_getitem _ _)))
  show wpAny _ _ (Builtin.Tuple.tupleItemsOf (.ref t) >>= _) _ _ s
  refine wpAny_bind (tupleItemsOf_ ht ?_)
  refine wpAny_bind (wpAny_typeOf hTs ?_)
  rw [if_pos (by decide)]
  refine wpAny_bind (sliceApplied_rev hs pl pu ps ?_)
  have hno : ¬ ((((items.size : Int) - 1) == 0 && (-1 : Int) == 1 && items.size == items.size) = true) := by simp
  show wpAny _ _ (if (((items.size : Int) - 1) == 0 && (-1 : Int) == 1 && items.size == items.size) = true then _ else _) _ _ s
  rw [if_neg hno, pick_rev items]
  first
    | exact wpAny_bind (m := Builtin.Tuple.tupleExact _) (wpAny_newObj_type (wpAny_pure ⟨_, rfl, wpAny_pure h⟩) hok)
    | exact wpAny_bind (m := Builtin.Tuple.tupleExact _) (wpAny_newObj_type (wpAny_bind (wpAny_pure (wpAny_pure ⟨_, rfl, wpAny_pure h⟩))) hok)
    | exact wpAny_bind (wpAny_bind (m := Builtin.Tuple.tupleExact _) (wpAny_newObj_type (wpAny_pure (wpAny_pure ⟨_, rfl, wpAny_pure h⟩)) hok))
    | exact wpAny_bind (wpAny_bind (m := Builtin.Tuple.tupleExact _) (wpAny_newObj_type (wpAny_pure ⟨_, rfl, wpAny_pure h⟩) hok))
end
theorem rev_all {X : Cx} {fa : Nat → Option Addr} {pins : List (Addr × Obj)} {σ : L2.St} {H : Hp} {s : Shared} {x : V} {v : Value} {sl : Addr} {vl vu vs : Value} {Q : VK} (I : Inv X pins σ H s) (rx : RelV x v) (hs : s.heap.IsSliceOf sl vl vu vs) (pl : IsPart vl none) (pu : IsPart vu none) (ps : IsPart vs (some (-1)))
    (h : r1 X fa opRev x H Q) : ∃ T id, typeLookup (.type T) "__getitem__" = pure (some (.builtin id)) ∧ s.TypeIs v T ∧ wpAny (model X.prog X.w) X.A (getItem v (.ref sl)) (EP X pins σ Q) X.xe s := by
  obtain ⟨env, σ', Hf, Os, d1, d, S, l1, e, q⟩ := h
  cases d1 <;> try (cases e; done)
  · rename_i z
    obtain ⟨h, e⟩ := chk_eq_ok e
    cases e
    have l1 := l1.str
    subst l1
    obtain ⟨t, rfl⟩ := rx
    obtain ⟨os, hos, hcs, hds⟩ := hs
    obtain ⟨l, rfl, hl⟩ := IsPart.raw pl
    obtain ⟨u, rfl, hu⟩ := IsPart.raw pu
    obtain ⟨c, rfl, hc⟩ := IsPart.raw ps
    refine ⟨"str", _, F.slot_str_getitem.lookup, typeIs_str _ _ _, ?_⟩
    refine wpAny_getItem_str_slice (l := l) (u := u) (st := c) ⟨os, hos, hcs, hds⟩ (by rw [hc]; rfl) ?_
    unfold sliceMade slicePicked
    rw [hl, hu, hc]
    have hn : (⟨z.toArray⟩ : Str).length = z.length := by simp [Str.length]
    have e1 : Builtin.Str.strSliceIndices none none (-1) (⟨z.toArray⟩ : Str).length = (List.range z.length).map fun k => z.length - 1 - k := by
      rw [hn]
      exact PySem.W.krv_sliceRange z.length
    have e2 : ¬ ((((some (-1 : Int)).getD 1 == 1) && (Builtin.Str.strSliceIndices none none ((some (-1 : Int)).getD 1) (⟨z.toArray⟩ : Str).length).length == (⟨z.toArray⟩ : Str).length) = true) := by simp
    rw [if_neg e2]
    show Made.post (.str ⟨((Builtin.Str.strSliceIndices none none (-1) (⟨z.toArray⟩ : Str).length).filterMap ((⟨z.toArray⟩ : Str).cps[·]?)).toArray⟩) _ _
    rw [e1, PySem.W.krv_range, List.filterMap_reverse]
    have e3 : (List.range z.length).filterMap ((⟨z.toArray⟩ : Str).cps[·]?) = z := by
      have := PySem.W.krv_all z.toArray
      simpa using this
    rw [e3]
    refine ⟨?_, ⟨.str _, H, I.tok _, ⟨_, rfl⟩, q.flat S (.str _)⟩⟩
    show z.reverse.toArray.size ≤ _
    rw [List.size_toArray, List.length_reverse]
    exact inLim_le h
  · rename_i xs
    cases e
    obtain ⟨a, us, rfl, ha, ra⟩ := l1.tup
    cases rx
    obtain ⟨its, r, ht, hz⟩ := I.tuple (S.sub.tup ha)
    refine ⟨"tuple", _, PyProof.Rows.slot_tuple_getitem.lookup, ht.typeIs, ?_⟩
    refine getItem_tuple_rev ht hs pl pu ps ?_ (by rw [List.size_toArray, ← r.length]; exact hz)
    refine ⟨.ref s.heap.objs.size, _, I.laid (t' := s.toks) (o := .tup us.reverse) (fun b ob q => Heap.get?_push_of_some _ q) (Nat.le_refl _) ?_, rfl, q.newTup S ra.reverse (I.hok.fresh (Nat.le_refl _))⟩
    exact ⟨by rw [List.length_reverse]; exact hz, _, r.reverse, IsTup.new _ _⟩
  · rename_i xs
    cases e
    obtain ⟨a, us, rfl, ha, ra⟩ := l1.lst' S.sub
    cases rx
    obtain ⟨its, r, ht, hz⟩ := I.list (.inl ha)
    refine ⟨"list", _, PySem.slot_list_getitem.lookup, ht.isList.typeIs, ?_⟩
    refine wpAny_getItem_list_slice ht.isList hs pl pu ps (by decide) ?_ (by rw [List.size_toArray, ← r.length]; exact hz)
    rw [PySem.W.krv_pick]
    refine ⟨.ref s.heap.objs.size, _, I.laid (t' := s.toks) (o := .lst us.reverse) (fun b ob q => Heap.get?_push_of_some _ q) (Nat.le_refl _) ?_, rfl, q.newLst S ra.reverse (I.hok.fresh (Nat.le_refl _))⟩
    exact ⟨by rw [List.length_reverse]; exact hz, _, 0, r.reverse, Heap.get?_push_size _ rfl⟩

section
variable {X : Cx} {fa : Nat → Option Addr} {e a b c : Expr} {es : List Expr} {pos : Pos} {f g h : RE.Env → Out D}
theorem pp_rev {k : Nat} {p1 p2 p3 : Pos} (p : PE X e (tL X fa f)) : PE X (.Subscript e (.Slice none none (some (.UnaryOp .USub (.Constant (.int 1) k p1) p2)) p3) pos) (tP X fa fun env => (f env).bind opRev) := by
  refine PE.imp (t := fun σ H Q => tL X fa f σ H fun x H1 => r1 X fa opRev x H1 Q) ⟨fun pins s σ H Q I h => ?_⟩ (fun σ H Q h => un_imp h)
  refine Subscript_ (thn (p.run pins s σ H _ I h) fun v s1 ⟨x, H1, I1, r1, q1⟩ => ?_)
  have hst : PO X (some (.UnaryOp .USub (.Constant (.int 1) k p1) p2)) (tPart (tUn (rU fun i => .int (-i)) (tC (.int 1)))) := po_some (pe_un un_neg pe_int)
  refine wpAny_Slice (thn (po_none.run pins s1 σ H1 (fun o H2 => o = none ∧ H2 = H1) I1 ⟨rfl, rfl⟩) fun vl s2 ⟨l, H2, I2, pl, el, e2⟩ => ?_)
  subst el e2
  refine thn (po_none.run pins s2 σ H2 (fun o H3 => o = none ∧ H3 = H2) I2 ⟨rfl, rfl⟩) fun vu s3 ⟨u, H3, I3, pu, eu, e3⟩ => ?_
  subst eu e3
  refine thn (hst.run pins s3 σ H3 (fun o H4 => o = some (-1) ∧ H4 = H3) I3 ⟨1, rfl, -1, rfl, rfl, rfl⟩) fun vs s4 ⟨o, H4, I4, ps, eo, e4⟩ => ?_
  subst eo e4
  have I5 : Inv X pins σ H4 { s4 with heap := s4.heap.push { cls := .type "slice", data := .fields #[vl, vu, vs] } } := I4.kept (t' := s4.toks) fun b ob q => Heap.get?_push_of_some _ q
  obtain ⟨T, id, hT, ht, hg⟩ := rev_all I5 r1 (Heap.IsSliceOf.new _ vl vu vs) pl pu ps q1
  exact tail_any (ops := [v, .ref s4.heap.objs.size]) ht hT hg (by with_unfolding_all rfl)
/-- a bound of a slice -/
def tB1 (X : Cx) (fa : Nat → Option Addr) (f : RE.Env → Out D) : TO := fun σ H Q => ∃ env Hf Os i, Sim (rc X fa) env σ Hf H Os ∧ f env = .ok (.int i) ∧ ∀ Hf' H', Sim (rc X fa) env σ Hf' H' Os → Stp W0 Hf H Hf' H' → Q (some i) H'
theorem po_D (p : PE X e (tL X fa f)) : PO X (some e) (tB1 X fa f) := by
  refine ⟨fun pins s σ H Q I h => (po_some p).run pins s σ H Q I ?_⟩
  obtain ⟨env, Hf, Os, i, S, e, q⟩ := h
  exact ⟨env, Hf, Os, _, S, e, fun v Hf1 H1 S1 st1 r1 => ⟨i, r1.int, q Hf1 H1 S1 st1⟩⟩
theorem sl_get {d1 d : D} {lo hi : Bool} {r : List D} (e : opSl lo hi r d1 = .ok d) : ∃ b, bnds lo hi r = some b ∧ slD b.1 b.2 d1 = Out.ok d := by
  cases d1 <;> try (cases e; done)
  · obtain ⟨h, e⟩ := chk_eq_ok e
    obtain ⟨b, e1, e2⟩ := Out.bind_eq_ok e
    exact ⟨b, ofO_eq_ok e1, by show chk _ _ = _; rw [h]; exact e2⟩
  · obtain ⟨b, e1, e2⟩ := Out.bind_eq_ok e
    exact ⟨b, ofO_eq_ok e1, e2⟩
  · obtain ⟨b, e1, e2⟩ := Out.bind_eq_ok e
    exact ⟨b, ofO_eq_ok e1, e2⟩
/-- e[:] -/
theorem pp_sl0 {p2 : Pos} (p : PE X e (tL X fa f)) : PE X (.Subscript e (.Slice none none none p2) pos) (tP X fa fun env => (f env).bind (opSl false false [])) := PE.imp (pe_slice (sl_all (fa := fa)) p po_none po_none) fun σ H Q ⟨env, Hf, Os, d, S, e, q⟩ => by
  obtain ⟨d1, e1, e⟩ := Out.bind_eq_ok e
  obtain ⟨b, eb, e⟩ := sl_get e
  cases eb
  exact ⟨env, Hf, Os, d1, S, e1, fun v Hf1 H1 S1 st1 r1 => ⟨env, σ, Hf1, Os, d1, d, S1, r1, e, q.move st1⟩⟩
/-- e[lo:] -/
theorem pp_sl1 {p2 : Pos} (p : PE X e (tL X fa f)) (p' : PE X a (tL X fa g)) : PE X (.Subscript e (.Slice (some a) none none p2) pos) (tP X fa fun env => (f env).bind fun x => (g env).bind fun y => opSl true false [y] x) := PE.imp (pe_slice (sl_all (fa := fa)) p (po_D p') po_none) fun σ H Q ⟨env, Hf, Os, d, S, e, q⟩ => by
  obtain ⟨d1, e1, e⟩ := Out.bind_eq_ok e
  obtain ⟨d2, e2, e⟩ := Out.bind_eq_ok e
  obtain ⟨b, eb, e⟩ := sl_get e
  cases d2 <;> first | (cases eb; done) | skip
  cases eb
  exact ⟨env, Hf, Os, d1, S, e1, fun v Hf1 H1 S1 st1 r1 => ⟨env, Hf1, Os, _, S1, e2, fun Hf2 H2 S2 st2 => ⟨env, σ, Hf2, Os, d1, d, S2, r1.mono st2.fr st2.same, e, q.move (st1.trans st2)⟩⟩⟩
/-- e[:hi] -/
theorem pp_sl2 {p2 : Pos} (p : PE X e (tL X fa f)) (p' : PE X a (tL X fa g)) : PE X (.Subscript e (.Slice none (some a) none p2) pos) (tP X fa fun env => (f env).bind fun x => (g env).bind fun y => opSl false true [y] x) := PE.imp (pe_slice (sl_all (fa := fa)) p po_none (po_D p')) fun σ H Q ⟨env, Hf, Os, d, S, e, q⟩ => by
  obtain ⟨d1, e1, e⟩ := Out.bind_eq_ok e
  obtain ⟨d2, e2, e⟩ := Out.bind_eq_ok e
  obtain ⟨b, eb, e⟩ := sl_get e
  cases d2 <;> first | (cases eb; done) | skip
  cases eb
  exact ⟨env, Hf, Os, d1, S, e1, fun v Hf1 H1 S1 st1 r1 => ⟨env, Hf1, Os, _, S1, e2, fun Hf2 H2 S2 st2 => ⟨env, σ, Hf2, Os, d1, d, S2, r1.mono st2.fr st2.same, e, q.move (st1.trans st2)⟩⟩⟩
/-- e[lo:hi] -/
theorem pp_sl3 {p2 : Pos} (p : PE X e (tL X fa f)) (p' : PE X a (tL X fa g)) (p'' : PE X b (tL X fa h)) : PE X (.Subscript e (.Slice (some a) (some b) none p2) pos) (tP X fa fun env => (f env).bind fun x => (g env).bind fun y => (h env).bind fun z => opSl true true [y, z] x) := PE.imp (pe_slice (sl_all (fa := fa)) p (po_D p') (po_D p'')) fun σ H Q ⟨env, Hf, Os, d, S, e, q⟩ => by
  obtain ⟨d1, e1, e⟩ := Out.bind_eq_ok e
  obtain ⟨d2, e2, e⟩ := Out.bind_eq_ok e
  obtain ⟨d3, e3, e⟩ := Out.bind_eq_ok e
  obtain ⟨b, eb, e⟩ := sl_get e
  cases d2 <;> first | (cases eb; done) | skip
  cases d3 <;> first | (cases eb; done) | skip
  cases eb
  exact ⟨env, Hf, Os, d1, S, e1, fun v Hf1 H1 S1 st1 r1 => ⟨env, Hf1, Os, _, S1, e2, fun Hf2 H2 S2 st2 => ⟨env, Hf2, Os, _, S2, e3, fun Hf3 H3 S3 st3 => ⟨env, σ, Hf3, Os, d1, d, S3, (r1.mono st2.fr st2.same).mono st3.fr st3.same, e, q.move ((st1.trans st2).trans st3)⟩⟩⟩⟩

/-! ### calls of built-in functions -/
theorem pp_callB1 {x : Str} {id : String} {p0 : Pos} {go : D → Out D} (hc : CallR X (.builtin id) (rC1 X fa go)) (hg : Gl X x) (hm : X.mg x = none) (hv : bootBuiltins x = some (.builtin id)) (p : PE X e (tL X fa f)) (hn : x ≠ "__name__") (hdb : (x == ("__debug__" : Str)) = false)
    (hs : starEach [e] X.env = (false, eval e X.env) :: starEach [] X.env) : PE X (.Call (.Name x p0) [e] [] pos) (tP X fa fun env => (f env).bind go) :=
  PE.imp (pe_callB hc hg hm hv (pa_cons p pa_nil hs) hn hdb hs rfl) fun σ H Q h => by
    obtain ⟨env, Hf, Os, d, S, e, q⟩ := h
    obtain ⟨d1, e1, e⟩ := Out.bind_eq_ok e
    exact ⟨env, Hf, Os, d1, S, e1, fun v Hf1 H1 S1 st1 r1 => ⟨v, rfl, env, σ, Hf1, Os, d1, d, S1, r1, e, q.move st1⟩⟩
theorem pp_callT1 {x : Str} {T : String} {p0 : Pos} {go : D → Out D} (hc : CallR X (.type T) (rC1 X fa go)) (hg : Gl X x) (hm : X.mg x = none) (hv : bootBuiltins x = some (.type T)) (p : PE X e (tL X fa f)) (hn : x ≠ "__name__") (hdb : (x == ("__debug__" : Str)) = false)
    (hs : starEach [e] X.env = (false, eval e X.env) :: starEach [] X.env) : PE X (.Call (.Name x p0) [e] [] pos) (tP X fa fun env => (f env).bind go) :=
  PE.imp (pe_callTy hc hg hm hv (pa_cons p pa_nil hs) hn hdb hs rfl) fun σ H Q h => by
    obtain ⟨env, Hf, Os, d, S, e, q⟩ := h
    obtain ⟨d1, e1, e⟩ := Out.bind_eq_ok e
    exact ⟨env, Hf, Os, d1, S, e1, fun v Hf1 H1 S1 st1 r1 => ⟨v, rfl, env, σ, Hf1, Os, d1, d, S1, r1, e, q.move st1⟩⟩
theorem pf_callT1 {x : Str} {T : String} {p0 : Pos} {go : D → Out (List D)} (hc : CallR X (.type T) (rF1 X fa go)) (hg : Gl X x) (hm : X.mg x = none) (hv : bootBuiltins x = some (.type T)) (p : PE X e (tL X fa f)) (hn : x ≠ "__name__") (hdb : (x == ("__debug__" : Str)) = false)
    (hs : starEach [e] X.env = (false, eval e X.env) :: starEach [] X.env) : PE X (.Call (.Name x p0) [e] [] pos) (tF X fa fun env => (f env).bind go) :=
  PE.imp (pe_callTy hc hg hm hv (pa_cons p pa_nil hs) hn hdb hs rfl) fun σ H Q h => by
    obtain ⟨env, Hf, Os, d, S, e, q⟩ := h
    obtain ⟨d1, e1, e⟩ := Out.bind_eq_ok e
    exact ⟨env, Hf, Os, d1, S, e1, fun v Hf1 H1 S1 st1 r1 => ⟨v, env, σ, Hf1, Os, d1, d, rfl, S1, r1, e, q.move st1⟩⟩
theorem pf_callB1 {x : Str} {id : String} {p0 : Pos} {go : D → Out (List D)} (hc : CallR X (.builtin id) (rF1 X fa go)) (hg : Gl X x) (hm : X.mg x = none) (hv : bootBuiltins x = some (.builtin id)) (p : PE X e (tL X fa f)) (hn : x ≠ "__name__") (hdb : (x == ("__debug__" : Str)) = false)
    (hs : starEach [e] X.env = (false, eval e X.env) :: starEach [] X.env) : PE X (.Call (.Name x p0) [e] [] pos) (tF X fa fun env => (f env).bind go) :=
  PE.imp (pe_callB hc hg hm hv (pa_cons p pa_nil hs) hn hdb hs rfl) fun σ H Q h => by
    obtain ⟨env, Hf, Os, d, S, e, q⟩ := h
    obtain ⟨d1, e1, e⟩ := Out.bind_eq_ok e
    exact ⟨env, Hf, Os, d1, S, e1, fun v Hf1 H1 S1 st1 r1 => ⟨v, env, σ, Hf1, Os, d1, d, rfl, S1, r1, e, q.move st1⟩⟩
theorem pp_callB2 {x : Str} {id : String} {p0 : Pos} {go : D → D → Out D} (hc : CallR X (.builtin id) (rC2 X fa go)) (hg : Gl X x) (hm : X.mg x = none) (hv : bootBuiltins x = some (.builtin id)) (p : PE X e (tL X fa f)) (p' : PE X a (tL X fa g)) (hn : x ≠ "__name__") (hdb : (x == ("__debug__" : Str)) = false)
    (hs : starEach [e, a] X.env = (false, eval e X.env) :: starEach [a] X.env) (hs' : starEach [a] X.env = (false, eval a X.env) :: starEach [] X.env) : PE X (.Call (.Name x p0) [e, a] [] pos) (tP X fa fun env => (f env).bind fun x => (g env).bind fun y => go x y) :=
  PE.imp (pe_callB hc hg hm hv (pa_cons p (pa_cons p' pa_nil hs') hs) hn hdb hs (by rw [hs']; rfl)) fun σ H Q h => by
    obtain ⟨env, Hf, Os, d, S, e, q⟩ := h
    obtain ⟨d1, e1, e⟩ := Out.bind_eq_ok e
    obtain ⟨d2, e2, e⟩ := Out.bind_eq_ok e
    exact ⟨env, Hf, Os, d1, S, e1, fun v Hf1 H1 S1 st1 r1 => ⟨env, Hf1, Os, d2, S1, e2, fun u Hf2 H2 S2 st2 r2 => ⟨v, u, rfl, env, σ, Hf2, Os, d1, d2, d, S2, r1.mono st2.fr st2.same, r2, e, q.move (st1.trans st2)⟩⟩⟩
/-- isinstance(e, T) -/
theorem pp_isi {t : String} {x : Str} {p0 p1 : Pos} (ht : t ∈ isiTys) (hg : Gl X "isinstance") (hm : X.mg "isinstance" = none) (hgt : Gl X x) (hmt : X.mg x = none) (hvt : bootBuiltins x = some (.type t)) (p : PE X e (tL X fa f)) (hn : x ≠ "__name__") (hdb : (x == ("__debug__" : Str)) = false)
    (hs : starEach [e, .Name x p1] X.env = (false, eval e X.env) :: starEach [.Name x p1] X.env) : PE X (.Call (.Name "isinstance" p0) [e, .Name x p1] [] pos) (tP X fa fun env => (f env).bind (opIsi t)) :=
  PE.imp (pe_callB (call_isiD (fa := fa) ht) hg hm (by decide +kernel) (pa_cons p (pa_cons (pe_bltn (v := .ty t) hgt hmt hvt rfl hn hdb) pa_nil rfl) hs) (by decide +kernel) (by decide +kernel) hs rfl) fun σ H Q h => by
    obtain ⟨env, Hf, Os, d, S, e, q⟩ := h
    obtain ⟨d1, e1, e⟩ := Out.bind_eq_ok e
    exact ⟨env, Hf, Os, d1, S, e1, fun v Hf1 H1 S1 st1 r1 => ⟨v, rfl, env, σ, Hf1, Os, d1, d, S1, r1, e, q.move st1⟩⟩
/-- e.join(a) -/
theorem pp_join {apos : Pos} (p : PE X e (tL X fa f)) (p' : PE X a (tL X fa g)) (hs : starEach [a] X.env = [(false, eval a X.env)]) (hbase : attributeBase e "join" X.env (eval e X.env) = eval e X.env) (hline : (apos.endLine == pos.line) = true) :
    PE X (.Call (.Attribute e "join" apos) [a] [] pos) (tP X fa fun env => (f env).bind fun x => (g env).bind fun y => opJoin x y) :=
  PE.imp (pe_m1 PySem.F.slot_str_join PySem.F.type_str_join (mt_joinD (fa := fa)) p p' hs hbase hline) fun σ H Q h => by
    obtain ⟨env, Hf, Os, d, S, e, q⟩ := h
    obtain ⟨d1, e1, e⟩ := Out.bind_eq_ok e
    obtain ⟨d2, e2, e⟩ := Out.bind_eq_ok e
    refine ⟨env, Hf, Os, d1, S, e1, fun v Hf1 H1 S1 st1 r1 => ⟨?_, env, Hf1, Os, d2, S1, e2, fun u Hf2 H2 S2 st2 r2 => ⟨u, rfl, env, σ, Hf2, Os, d1, d2, d, S2, r1.mono st2.fr st2.same, r2, e, q.move (st1.trans st2)⟩⟩⟩
    cases d1 <;> first | (exact ⟨_, r1.str⟩) | (cases d2 <;> cases e)
end
end RE
end

section
set_option linter.all false
set_option maxRecDepth 100000
set_option maxHeartbeats 4000000
/-! RE12: calls of the program's own functions. -/
namespace RE
open PySem PySem.Spec PyProof.Rows L2

section
variable {R : Rc} {env : RE.Env} {σ : L2.St} {Hf H Hf' H' : Hp} {Os : Nat → List Addr}
theorem Sim.step (S : Sim R env σ Hf H Os) (sub : Sub Hf' H') (st : Stp W0 Hf H Hf' H') : Sim R env σ Hf' H' Os := by
  refine S.mono st.fr sub (fun i b hb => ?_) (fun i a ha => ?_)
  · have h := S.there hb
    cases e : H b with
    | none => exact absurd e h
    | some o => exact st.kp b o e fun z => z
  · cases e : Hf' a with
    | none => rfl
    | some o =>
      rcases st.nw a (S.new i a ha) (by rw [e]; exact fun z => nomatch z) with z | z
      · exact absurd z (S.there ha)
      · exact z.elim
theorem RpA.lens {vs : List V} {ds : List D} (h : RpA R H vs ds) : vs.length = ds.length := h.length
end

/-- what a def promises: its values by the evaluator -/
def spP (R : Rc) (cl : Cl) (n np : Nat) : Sp := fun vs H Q _ => vs.length = np ∧ ∃ Hf ds d, Sub Hf H ∧ RpA R Hf vs ds ∧ cl.f n ds = .ok d ∧ ∀ v Hf' H', Sub Hf' H' → Stp W0 Hf H Hf' H' → Rp R Hf' v d → Q v H'
/-- .. whose list is its caller's own -/
def spF (R : Rc) (cl : Cl) (n np : Nat) : Sp := fun vs H Q _ => vs.length = np ∧ ∃ Hf ds xs, Sub Hf H ∧ RpA R Hf vs ds ∧ cl.fr n ds = .ok xs ∧ ∀ p us Hf' H', Sub Hf' H' → Stp W0 Hf H Hf' H' → H p = none → Hf' p = none → H' p = some (.lst us) → RpA R Hf' us xs → Q (.ref p) H'
/-- .. that changes its first argument's list -/
def spI (R : Rc) (cl : Cl) (n np : Nat) : Sp := fun vs H Q _ => vs.length = np ∧ ∃ Hf a us ws xs ds d xs', vs = .ref a :: us ∧ Sub Hf H ∧ H a = some (.lst ws) ∧ Hf a = none ∧ RpA R Hf ws xs ∧ RpA R Hf us ds ∧ cl.io n xs ds = .ok (d, xs') ∧
  ∀ v Hf' H' ws', Sub Hf' H' → Stp (fun b => b = a) Hf H Hf' H' → Hf' a = none → H' a = some (.lst ws') → RpA R Hf' ws' xs' → Rp R Hf' v d → Q v H'
/-- the name x calls a def of the text that keeps sp -/
def CallOk (X : Cx) (x : Str) (np : Nat) (sp : Sp) : Prop := ∃ f fd ps k, FnOk X.prog X.w X.K X.mg X.base CX0 k f fd ps sp ∧ Room k X.A ∧ X.mg x = some (.ref f) ∧ PySem.W.keepIn X.K (.ref f) = true ∧ Binds X.K fd ps []

section
variable {X : Cx} {fa : Nat → Option Addr} {e a b c : Expr} {es : List Expr} {pos p0 : Pos} {f g h : RE.Env → Out D} {cl : Cl} {n np : Nat} {x : Str}
theorem pp_call {fs : RE.Env → Out (List D)} (C : CallOk X x np (spP (rc X fa) cl n np)) (hg : Gl X x) (hp : PA X (e :: es) (tPs X fa fs)) (hl : ∀ env ds, fs env = .ok ds → ds.length = np) (hdb : (x == ("__debug__" : Str)) = false)
    (he : starEach (e :: es) X.env = (false, eval e X.env) :: starEach es X.env) (hpl : (backTo pos (starEach es X.env)).any (·.1) = false) : PE X (.Call (.Name x p0) (e :: es) [] pos) (tP X fa fun env => (fs env).bind fun ds => cl.f n ds) := by
  obtain ⟨f, fd, ps, k, F, hr, hm, hk, hb⟩ := C
  refine PE.imp (pe_call F hr hg hm hk hb (.nil) pass0 hp hdb he hpl) fun σ H Q ⟨env, Hf, Os, d, S, e1, q⟩ => ?_
  obtain ⟨ds, e1, e2⟩ := Out.bind_eq_ok e1
  refine ⟨env, Hf, Os, ds, S, e1, fun vs Hf1 H1 S1 st1 r1 => ?_⟩
  dsimp only
  rw [List.append_nil]
  exact ⟨by rw [r1.length, hl _ _ e1], Hf1, ds, d, S1.sub, r1, e2, fun v Hf' H' sub st r => q v Hf' H' (S1.step sub st) (st1.trans st) r⟩
theorem pp_call0 (C : CallOk X x 0 (spP (rc X fa) cl n 0)) (hg : Gl X x) (hdb : (x == ("__debug__" : Str)) = false) : PE X (.Call (.Name x p0) [] [] pos) (tP X fa fun env => cl.f n []) := by
  obtain ⟨f, fd, ps, k, F, hr, hm, hk, hb⟩ := C
  refine PE.imp (pe_call0 F hr hg hm hk hb (.nil) pass0 hdb) fun σ H Q ⟨env, Hf, Os, d, S, e1, q⟩ => ?_
  exact ⟨rfl, Hf, [], d, S.sub, .nil, e1, fun v Hf' H' sub st r => q v Hf' H' (S.step sub st) st r⟩
theorem pf_call {fs : RE.Env → Out (List D)} (C : CallOk X x np (spF (rc X fa) cl n np)) (hg : Gl X x) (hp : PA X (e :: es) (tPs X fa fs)) (hl : ∀ env ds, fs env = .ok ds → ds.length = np) (hdb : (x == ("__debug__" : Str)) = false)
    (he : starEach (e :: es) X.env = (false, eval e X.env) :: starEach es X.env) (hpl : (backTo pos (starEach es X.env)).any (·.1) = false) : PE X (.Call (.Name x p0) (e :: es) [] pos) (tF X fa fun env => (fs env).bind fun ds => cl.fr n ds) := by
  obtain ⟨f, fd, ps, k, F, hr, hm, hk, hb⟩ := C
  refine PE.imp (pe_call F hr hg hm hk hb (.nil) pass0 hp hdb he hpl) fun σ H Q ⟨env, Hf, Os, d, S, e1, q⟩ => ?_
  obtain ⟨ds, e1, e2⟩ := Out.bind_eq_ok e1
  refine ⟨env, Hf, Os, ds, S, e1, fun vs Hf1 H1 S1 st1 r1 => ?_⟩
  dsimp only
  rw [List.append_nil]
  refine ⟨by rw [r1.length, hl _ _ e1], Hf1, ds, d, S1.sub, r1, e2, fun p us Hf' H' sub st n1 n2 h1 r => q.move st1 p us Hf' H' (S1.step sub st) st n1 n2 h1 r fun i hi => S1.there hi n1⟩
end
end RE
end

section
set_option linter.all false
set_option maxRecDepth 100000
set_option maxHeartbeats 4000000
/-! RE13: what is walked. -/
namespace RE
open PySem PySem.Spec PyProof.Rows L2

/-! ### enumerate over a list, a tuple, a text -/
theorem meets_enumerate_newB1 {v : Value} {o : Obj} {H : Heap → Prop} (B : Begins v o H) :
    Meets (Builtin.«enumerate.__new__» ⟨[.type "enumerate", v], []⟩) (fun _ R s => H s.heap ∧
      R (.ok (.ret (.ref (s.heap.push o).objs.size))) { s with heap := (s.heap.push o).push { cls := .type "enumerate", data := .fields #[.none, .bool false, .ref s.heap.objs.size, rawInt 0, .none, .none] } }) :=
  .of_wp fun prog w A R s h => by
    obtain ⟨hp, g, d, tk, os⟩ := s; obtain ⟨h1, h⟩ := h
    have hsub := sub_enumerate
    have q1 : ∀ {A' : Around} {E : Value → Shared → Prop} {Q : Value → Shared → Prop}, Q (.ref hp.objs.size) ⟨hp.push o, g, d, tk, os⟩ → wpAny (model prog w) A' (pyIter v) Q E ⟨hp, g, d, tk, os⟩ :=
      fun q => B.iter prog w _ _ ⟨hp, g, d, tk, os⟩ _ h1 q
    wp_walk using q1
    refine wpAny_stack_any fun st => wpAny_pure ?_
    split
    · rename_i c _ _ _ _ _
      cases (c == Value.type "enumerate")
      · wp_walk using q1
        exact ⟨_, rfl, h⟩
      · wp_walk using q1
        exact ⟨_, rfl, h⟩
    · wp_walk using q1
      exact ⟨_, rfl, h⟩
theorem call_enumerateB {prog : Program} {w : World} {A : Around} {E : Value → Shared → Prop} {s : Shared} {v : Value} {o : Obj} {H : Heap → Prop} {Q : Value → Shared → Prop} (B : Begins v o H) (h1 : H s.heap)
    (h : ∀ h', IsEnum h' (s.heap.objs.size + 1) s.heap.objs.size 0 .none → h'.get? s.heap.objs.size = some o → h'.objs.size = s.heap.objs.size + 2 →
      (∀ b o, s.heap.get? b = some o → h'.get? b = some o) → Q (.ref (s.heap.objs.size + 1)) { s with heap := h' }) :
    wpAny (model prog w) A (call (.type "enumerate") [v]) Q E s := by
  refine callType_new F.called_enumerate (by decide) (F.typeCall_enumerate_1 _) (F.newCall_enumerate_1 _) (fun obj => F.args_object_init_2 obj _) F.entry_enumerate_new
    (meets_enumerate_newB1 B) ⟨h1, ?_⟩
  have hz : (s.heap.push o).objs.size = s.heap.objs.size + 1 := Heap.size_push ..
  show _ ∧ _
  rw [hz]
  have he : IsEnum ((s.heap.push o).push { cls := .type "enumerate", data := .fields #[.none, .bool false, .ref s.heap.objs.size, rawInt 0, .none, .none] }) (s.heap.objs.size + 1) s.heap.objs.size 0 .none := by
    have := Heap.get?_push_size (s.heap.push o) (o := { cls := .type "enumerate", data := .fields #[.none, .bool false, .ref s.heap.objs.size, rawInt 0, .none, .none] }) rfl
    rw [hz] at this; exact this
  refine ⟨⟨_, he, rfl⟩, h _ he (Heap.get?_push_of_some _ (Heap.get?_push_size _ B.free)) (by rw [Heap.size_push, hz]) fun b o x => Heap.get?_push_of_some _ (Heap.get?_push_of_some _ x)⟩

/-- a tuple's items, each in a new pair -/
def IteT (K : PySem.W.Frag) (a : Addr) : L2.It :=
  ⟨fun i H => ∃ (xs : List V) (x : V), SqT K H a xs ∧ xs[i]? = some x, fun i H v H' => ∃ T x, v = .ref T ∧ H T = none ∧ H' = upd H T (.tup [.int (i : Nat), x]) ∧ ∀ xs, SqT K H a xs → xs[i]? = some x, fun i H => ∃ xs : List V, SqT K H a xs ∧ xs.length ≤ i⟩
/-- a text's signs, each in a new pair -/
def IteS (x : Str) : L2.It :=
  ⟨fun i _ => i < x.cps.size, fun i H v H' => ∃ T c, v = .ref T ∧ H T = none ∧ H' = upd H T (.tup [.int (i : Nat), .str ⟨#[c]⟩]) ∧ x.cps[i]? = some c, fun i _ => x.cps.size ≤ i⟩
theorem turn_enumT {P : Program} {w : World} {K : PySem.W.Frag} {elts : List Expr} {kk : Nat} {tpos : Pos} (a e it : Addr) :
    Turn P w K (.Tuple elts kk tpos) (IteT K a) [e, it] e (fun i h => (∃ old, IsEnum h e it ((i : Nat) : Int) old) ∧ h.IsTupleIter it a i ∧ e ≠ it) where
  mem := by simp
  obj := fun i h st b hb => by
    obtain ⟨⟨old, he⟩, ⟨o, ho, hc, hd⟩, _⟩ := st
    have e' : b = e ∨ b = it := by simpa using hb
    rcases e' with z | z
    · rw [z]; exact ⟨_, he, fun v q => nomatch q⟩
    · rw [z]; exact ⟨o, ho, fun v q => by rw [hd] at q; cases q⟩
  keep := fun i h h' st k => let ⟨⟨old, he⟩, hi, hne⟩ := st; ⟨⟨old, k e (by simp) _ he⟩, hi.at fun o q => k it (by simp) o q, hne⟩
  item := by
    intro X hP hw hK hc i pins s σ H E I hf st hg
    subst hP hw hK
    obtain ⟨⟨old, he⟩, hit, hne⟩ := st
    obtain ⟨xs, x, hq, hx⟩ := hg
    obtain ⟨its, rv, p, hz⟩ := I.tuple hq
    obtain ⟨u, hu, ru⟩ := rv.get hx
    have p' : s.heap.IsTuple a its.toArray := p
    have hel : e < s.heap.objs.size := Heap.lt_size he
    have hil : it < s.heap.objs.size := by obtain ⟨_, q, _⟩ := hit; exact Heap.lt_size q
    have hai : a ≠ it := by
      rintro rfl
      obtain ⟨o1, q1, c1, _⟩ := hit
      obtain ⟨o2, q2, c2, _⟩ := p'
      rw [q1] at q2; cases q2; rw [c1] at c2; injection c2 with z; exact absurd z (by decide)
    have hae : a ≠ e := by
      rintro rfl
      obtain ⟨o2, q2, c2, _⟩ := p'
      have he' : s.heap.get? a = _ := he
      rw [he'] at q2; cases q2; injection c2 with z; exact absurd z (by decide)
    have D := Draws.tuple (prog := X.prog) (w := X.w) (A := X.A.in1) (I.ok.hd hc) it a hai its.toArray
    refine wpAny_pyNext_enum_itemD D he ⟨hit, p'⟩ (by have := rv.length; have := (List.getElem?_eq_some_iff.mp hx).1; simp; omega) hne (by simp; exact ⟨hne, fun z => hae z.symm⟩) fun y h' tk hy ho hit' hT hsz hk => ?_
    obtain rfl : y = u := by
      have hy : its.toArray[i]? = some y := hy
      have hu' : its.toArray[i]? = some u := by simpa using hu
      rw [hu'] at hy; exact (Option.some.inj hy).symm
    refine ⟨_, rfl, wpAny_letOwnedTupleGo_enum (s := { s with heap := h', toks := tk + 1 }) ho fun h'' he' sb => ?_⟩
    have hT2 : h''.get? s.heap.objs.size = some { cls := .type "tuple", data := .seq #[.int i tk, y] } := (sb.2 _ (Nat.ne_of_gt hel)).trans hT
    have new : ObjOk X.prog X.w (upd H s.heap.objs.size (.tup [.int (i : Nat), x])) h'' s.heap.objs.size (.tup [.int (i : Nat), x]) :=
      ⟨by show 2 ≤ sizeLine; decide, [.int i tk, y], .cons ⟨_, rfl⟩ (.cons ru .nil), ⟨_, hT2, rfl, _, rfl⟩⟩
    have I1 : Inv X pins σ (upd H s.heap.objs.size (.tup [.int (i : Nat), x])) { s with heap := h'', toks := tk + 1 } :=
      I.turnedNew (ch := [e, it]) (fun b ob hb q => (sb.2 b (fun z => hb (by simp [z]))).trans (hk b ob (fun z => hb (by simp [z])) (fun z => hb (by simp [z])) q)) hf (Nat.le_refl _) new
    refine ⟨.ref s.heap.objs.size, _, I1, rfl, ⟨_, x, rfl, I.hok.fresh (Nat.le_refl _), rfl, fun ys hy => by rw [I.tuple_inj hy hq]; exact hx⟩, ⟨⟨y, ?_⟩, hit'.1.at fun o q => (sb.2 it (Ne.symm hne)).trans q, hne⟩, fun b hb => ?_⟩
    · have e1 : ((i + 1 : Nat) : Int) = (i : Int) + 1 := by omega
      rw [e1]; exact he'
    · have hb' : b < s.heap.objs.size := by
        have e' : b = e ∨ b = it := by simpa using hb
        rcases e' with z | z
        · rw [z]; exact hel
        · rw [z]; exact hil
      rw [upd_ne (Nat.ne_of_lt hb')]
      exact (hf b hb).1
  done := by
    intro X hP hw hK hc i pins s σ H E I hf st hg
    subst hP hw hK
    obtain ⟨⟨old, he⟩, hit, hne⟩ := st
    obtain ⟨xs, hq, hx⟩ := hg
    obtain ⟨its, rv, p, hz⟩ := I.tuple hq
    obtain ⟨f0, f1, f2, f3, f4, f5⟩ := hf it (by simp)
    have hl := rv.length
    have p' : s.heap.IsTuple a its.toArray := p
    have hT : s.TypeIs (.ref e) "enumerate" := ⟨_, he, rfl⟩
    unfold pyNext
    refine wpAny_bind (wpAny_attempt (wpAny_callSpecial?_slot (name := Str.ofString "__next__") hT F.slot_enumerate_next
      (wpAny_call_entry F.slot_enumerate_next hT F.entry_enumerate_next ?_ (F.args_enumerate_next_1 _))))
    show wpAny _ _ (field (.ref e) 2 >>= _) _ _ _
    refine wpAny_bind (wpAny_field he rfl (x := .ref it) rfl ?_)
    refine wpAny_bind (wpAny_nextOf_tuple_end (A := X.A.in1) (I.ok.hd hc) hit p' (by simp; omega) fun h' x eb hx' => ?_)
    obtain ⟨o, ho, hcx⟩ := hx'
    refine wpAny_bind (wpAny_isInstance (T := "StopIteration") (b := true) ⟨o, ho, hcx⟩ isSubtype_stop ?_)
    exact wpAny_pure ⟨rfl, I.turned (t' := s.toks) (fun b o hb q => eb b o hb q) f0 f1 f3 f4 f5⟩
  self := fun A i s Q E st h => let ⟨⟨_, he⟩, _⟩ := st; wpAny_pyIter_enum he h
theorem turn_enumS {P : Program} {w : World} {K : PySem.W.Frag} {elts : List Expr} {kk : Nat} {tpos : Pos} (x : Str) (t : Tok) (e it : Addr) :
    Turn P w K (.Tuple elts kk tpos) (IteS x) [e, it] e (fun i h => (∃ old, IsEnum h e it ((i : Nat) : Int) old) ∧ h.IsStrIter it (strIterType x) x t i ∧ e ≠ it) where
  mem := by simp
  obj := fun i h st b hb => by
    obtain ⟨⟨old, he⟩, ⟨o, ho, hc, hd⟩, _⟩ := st
    have e' : b = e ∨ b = it := by simpa using hb
    rcases e' with z | z
    · rw [z]; exact ⟨_, he, fun v q => nomatch q⟩
    · rw [z]; exact ⟨o, ho, fun v q => by rw [hd] at q; cases q⟩
  keep := fun i h h' st k => let ⟨⟨old, he⟩, ⟨o, ho, r⟩, hne⟩ := st; ⟨⟨old, k e (by simp) _ he⟩, ⟨o, k it (by simp) o ho, r⟩, hne⟩
  item := by
    intro X hP hw hK hc i pins s σ H E I hf st hg
    subst hP hw hK
    obtain ⟨⟨old, he⟩, hit, hne⟩ := st
    have hel : e < s.heap.objs.size := Heap.lt_size he
    have hil : it < s.heap.objs.size := by obtain ⟨_, q, _⟩ := hit; exact Heap.lt_size q
    have D := Draws.text (prog := X.prog) (w := X.w) (A := X.A.in1) (I.ok.hd hc) it x t
    refine wpAny_pyNext_enum_itemD D he hit hg hne (by simp; exact hne) fun y h' tk hy ho hit' hT hsz hk => ?_
    obtain ⟨c, u, hcx, rfl⟩ := hy
    refine ⟨_, rfl, wpAny_letOwnedTupleGo_enum (s := { s with heap := h', toks := tk + 1 }) ho fun h'' he' sb => ?_⟩
    have hT2 : h''.get? s.heap.objs.size = some { cls := .type "tuple", data := .seq #[.int i tk, .str ⟨#[c]⟩ u] } := (sb.2 _ (Nat.ne_of_gt hel)).trans hT
    have new : ObjOk X.prog X.w (upd H s.heap.objs.size (.tup [.int (i : Nat), .str ⟨#[c]⟩])) h'' s.heap.objs.size (.tup [.int (i : Nat), .str ⟨#[c]⟩]) :=
      ⟨by show 2 ≤ sizeLine; decide, [.int i tk, .str ⟨#[c]⟩ u], .cons ⟨_, rfl⟩ (.cons ⟨_, rfl⟩ .nil), ⟨_, hT2, rfl, _, rfl⟩⟩
    have I1 : Inv X pins σ (upd H s.heap.objs.size (.tup [.int (i : Nat), .str ⟨#[c]⟩])) { s with heap := h'', toks := tk + 1 } :=
      I.turnedNew (ch := [e, it]) (fun b ob hb q => (sb.2 b (fun z => hb (by simp [z]))).trans (hk b ob (fun z => hb (by simp [z])) (fun z => hb (by simp [z])) q)) hf (Nat.le_refl _) new
    refine ⟨.ref s.heap.objs.size, _, I1, rfl, ⟨_, c, rfl, I.hok.fresh (Nat.le_refl _), rfl, hcx⟩, ⟨⟨.str ⟨#[c]⟩ u, ?_⟩, ?_, hne⟩, fun b hb => ?_⟩
    · have e1 : ((i + 1 : Nat) : Int) = (i : Int) + 1 := by omega
      rw [e1]; exact he'
    · obtain ⟨o, q, r⟩ := hit'
      exact ⟨o, (sb.2 it (Ne.symm hne)).trans q, r⟩
    · have hb' : b < s.heap.objs.size := by
        have e' : b = e ∨ b = it := by simpa using hb
        rcases e' with z | z
        · rw [z]; exact hel
        · rw [z]; exact hil
      rw [upd_ne (Nat.ne_of_lt hb')]
      exact (hf b hb).1
  done := by
    intro X hP hw hK hc i pins s σ H E I hf st hg
    subst hP hw hK
    obtain ⟨⟨old, he⟩, hit, hne⟩ := st
    obtain ⟨f0, f1, f2, f3, f4, f5⟩ := hf it (by simp)
    have D := Draws.text (prog := X.prog) (w := X.w) (A := X.A.in1) (I.ok.hd hc) it x t
    have hT : s.TypeIs (.ref e) "enumerate" := ⟨_, he, rfl⟩
    have hx : x.cps[i]? = none := Array.getElem?_eq_none hg
    unfold pyNext
    refine wpAny_bind (wpAny_attempt (wpAny_callSpecial?_slot (name := Str.ofString "__next__") hT F.slot_enumerate_next
      (wpAny_call_entry F.slot_enumerate_next hT F.entry_enumerate_next ?_ (F.args_enumerate_next_1 _))))
    show wpAny _ _ (field (.ref e) 2 >>= _) _ _ _
    refine wpAny_bind (wpAny_field he rfl (x := .ref it) rfl ?_)
    cases ha : x.cps.all (· < 128)
    · have hit' : s.heap.IsStrIter it "str_iterator" x t i := by simpa [strIterType, ha] using hit
      refine wpAny_bind (wpAny_nextOf_wide_end (A := X.A.in1) (I.ok.hd hc) hit' hx fun h' e' eb hx' => ?_)
      obtain ⟨o, ho, hcx⟩ := hx'
      refine wpAny_bind (wpAny_isInstance (T := "StopIteration") (b := true) ⟨o, ho, hcx⟩ isSubtype_stop ?_)
      exact wpAny_pure ⟨rfl, I.turned (t' := s.toks) (fun b o hb q => eb b o hb q) f0 f1 f3 f4 f5⟩
    · have hit' : s.heap.IsStrIter it "str_ascii_iterator" x t i := by simpa [strIterType, ha] using hit
      refine wpAny_bind (wpAny_nextOf_ascii_end (A := X.A.in1) (I.ok.hd hc) hit' hx fun h' e' eb hx' => ?_)
      obtain ⟨o, ho, hcx⟩ := hx'
      refine wpAny_bind (wpAny_isInstance (T := "StopIteration") (b := true) ⟨o, ho, hcx⟩ isSubtype_stop ?_)
      exact wpAny_pure ⟨rfl, I.turned (t' := s.toks) (fun b o hb q => eb b o hb q) f0 f1 f3 f4 f5⟩
  self := fun A i s Q E st h => let ⟨⟨_, he⟩, _⟩ := st; wpAny_pyIter_enum he h
/-! ### sources -/
/-- an iterator over the trees ds, as long as C stays -/
structure Fix (R : Rc) (J : L2.It) (C : Hp → Hp → Prop) (ds : List D) : Prop where
  next : ∀ env σ Hf H Os i d, C Hf H → Sim R env σ Hf H Os → ds[i]? = some d → J.go i H ∧ ∀ x H', J.yld i H x H' → ∃ Hf', Sim R env σ Hf' H' Os ∧ Stp W0 Hf H Hf' H' ∧ Rp R Hf' x d
  stop : ∀ Hf H i, C Hf H → Sub Hf H → ds.length ≤ i → J.stop i H
theorem Fix.weak {R : Rc} {J : L2.It} {C C' : Hp → Hp → Prop} {ds : List D} (h : Fix R J C ds) (i : ∀ Hf H, C' Hf H → C Hf H) : Fix R J C' ds :=
  ⟨fun env σ Hf H Os j d c => h.next env σ Hf H Os j d (i _ _ c), fun Hf H j c => h.stop Hf H j (i _ _ c)⟩
/-- walked while its own part stays as it is -/
def tIL (X : Cx) (fa : Nat → Option Addr) (f : RE.Env → Out (List D)) : TI := fun σ H R => ∃ env Hf Os ds, Sim (rc X fa) env σ Hf H Os ∧ f env = .ok ds ∧ ∀ J Hf' H', Sim (rc X fa) env σ Hf' H' Os → Stp W0 Hf H Hf' H' → Fix (rc X fa) J (fun Hf2 H2 => Same Hf' Hf2 ∧ Same H' H2) ds → R J H'
/-- .. of frozen things alone -/
def tI (X : Cx) (fa : Nat → Option Addr) (f : RE.Env → Out (List D)) : TI := fun σ H R => ∃ env Hf Os ds, Sim (rc X fa) env σ Hf H Os ∧ f env = .ok ds ∧ ∀ J Hf' H', Sim (rc X fa) env σ Hf' H' Os → Stp W0 Hf H Hf' H' → Fix (rc X fa) J (fun Hf2 H2 => Same Hf' Hf2) ds → R J H'
theorem PI.imp {X : Cx} {tg e : Expr} {t t' : TI} (h : PI X tg e t) (i : ∀ σ H Q, t' σ H Q → t σ H Q) : PI X tg e t' := ⟨fun pins s σ H Q I q => h.run pins s σ H Q I (i _ _ _ q)⟩
theorem PI_or {X : Cx} {tg e : Expr} {t u : TI} (h : PI X tg e t) (k : PI X tg e u) : PI X tg e (fun σ H R => t σ H R ∨ u σ H R) := ⟨fun pins s σ H Q I q => q.elim (h.run pins s σ H Q I) (k.run pins s σ H Q I)⟩
theorem Stp.of_eq {W : Addr → Prop} {Hf H H' : Hp} (e : H' = H) : Stp W Hf H Hf H' := by subst e; exact Stp.refl _ _ _
section
variable {X : Cx} {fa : Nat → Option Addr}
/-- the list at a holds these, whatever vs -/
theorem fix_list {R : Rc} {a : Addr} {C : Hp → Hp → Prop} {ds : List D} (h : ∀ Hf H, C Hf H → Sub Hf H → ∃ vs, SqL R.K H a vs ∧ RpA R Hf vs ds) : Fix R (Itl R.K a) C ds := by
  refine ⟨fun env σ Hf H Os i d c S e => ?_, fun Hf H i c S e => ?_⟩
  · obtain ⟨vs, q, r⟩ := h Hf H c S.sub
    obtain ⟨v, e1, r1⟩ := r.get e
    refine ⟨⟨vs, v, q, e1⟩, fun x H' y => ?_⟩
    obtain ⟨e2, y⟩ := y
    subst e2
    have := y vs q
    rw [e1] at this
    cases this
    exact ⟨Hf, S, Stp.refl _ _ _, r1⟩
  · obtain ⟨vs, q, r⟩ := h Hf H c S
    exact ⟨vs, q, by rw [r.length]; exact e⟩
theorem fix_tup {R : Rc} {a : Addr} {C : Hp → Hp → Prop} {ds : List D} (h : ∀ Hf H, C Hf H → Sub Hf H → ∃ vs, SqT R.K H a vs ∧ RpA R Hf vs ds) : Fix R (Itt R.K a) C ds := by
  refine ⟨fun env σ Hf H Os i d c S e => ?_, fun Hf H i c S e => ?_⟩
  · obtain ⟨vs, q, r⟩ := h Hf H c S.sub
    obtain ⟨v, e1, r1⟩ := r.get e
    refine ⟨⟨vs, v, q, e1⟩, fun x H' y => ?_⟩
    obtain ⟨e2, y⟩ := y
    subst e2
    have := y vs q
    rw [e1] at this
    cases this
    exact ⟨Hf, S, Stp.refl _ _ _, r1⟩
  · obtain ⟨vs, q, r⟩ := h Hf H c S
    exact ⟨vs, q, by rw [r.length]; exact e⟩
theorem fix_str {R : Rc} {C : Hp → Hp → Prop} (z : List Nat) : Fix R (Its ⟨z.toArray⟩) C (z.map fun c => .str [c]) := by
  refine ⟨fun env σ Hf H Os i d c S e => ?_, fun Hf H i c S e => ?_⟩
  · rw [List.getElem?_map] at e
    cases q : z[i]? with
    | none => rw [q] at e; cases e
    | some k =>
      rw [q] at e
      cases e
      have hi := (List.getElem?_eq_some_iff.mp q).1
      refine ⟨by show i < z.toArray.size; simpa using hi, fun x H' y => ?_⟩
      obtain ⟨e2, c', e3, e4⟩ := y
      subst e2
      have e3 : z.toArray[i]? = some c' := e3
      have : z[i]? = some c' := by simpa using e3
      rw [q] at this
      cases this
      subst e4
      exact ⟨Hf, S, Stp.refl _ _ _, .str [k]⟩
  · show z.toArray.size ≤ i
    simpa using e
theorem fix_rng {R : Rc} {C : Hp → Hp → Prop} (lo : Int) (n : Nat) : Fix R (Itr lo n) C (rngL lo n) := by
  refine ⟨fun env σ Hf H Os i d c S e => ?_, fun Hf H i c S e => ?_⟩
  · unfold rngL at e
    rw [List.getElem?_map] at e
    have hi : i < n := by
      cases q : (List.range n)[i]? with
      | none => rw [q] at e; cases e
      | some k => simpa using (List.getElem?_eq_some_iff.mp q).1
    rw [List.getElem?_range hi] at e
    cases e
    refine ⟨hi, fun x H' y => ?_⟩
    obtain ⟨e2, e3⟩ := y
    subst e2 e3
    exact ⟨Hf, S, Stp.refl _ _ _, .int _⟩
  · show n ≤ i
    have : (rngL lo n).length = n := by simp [rngL]
    omega
/-- a pair is laid anew at each turn -/
theorem pair_new {R : Rc} {env : RE.Env} {σ : L2.St} {Hf H : Hp} {Os : Nat → List Addr} {T : Addr} {x y : V} {d e : D} (S : Sim R env σ Hf H Os) (n : H T = none) (r : Rp R Hf x d) (q : Rp R Hf y e) :
    ∃ Hf', Sim R env σ Hf' (upd H T (.tup [x, y])) Os ∧ Stp W0 Hf H Hf' (upd H T (.tup [x, y])) ∧ Rp R Hf' (.ref T) (.tup [d, e]) := by
  have sf := same_new (o := HO.tup [x, y]) (S.sub.none n)
  exact ⟨_, S.alloc _ n, Stp.alloc S.sub _ n _, .tup (SqT.of upd_same) (.cons (r.sub (sameSub sf)) (.cons (q.sub (sameSub sf)) .nil))⟩
theorem enumL_get : ∀ {xs : List D} {k i : Nat}, (enumL k xs)[i]? = xs[i]?.map fun d => .tup [.int ((k + i : Nat) : Int), d]
  | [], _, _ => by simp [enumL]
  | x :: xs, k, 0 => by simp [enumL]
  | x :: xs, k, i + 1 => by
    show (enumL (k + 1) xs)[i]? = _
    rw [enumL_get (k := k + 1)]
    have : k + 1 + i = k + (i + 1) := by omega
    rw [this]
    simp
theorem enumL_length : ∀ {xs : List D} {k : Nat}, (enumL k xs).length = xs.length
  | [], _ => rfl
  | x :: xs, k => congrArg (· + 1) (enumL_length (xs := xs) (k := k + 1))
theorem zipL_get : ∀ {xs ys : List D} {i : Nat} {d : D}, (zipL xs ys)[i]? = some d → ∃ x y, xs[i]? = some x ∧ ys[i]? = some y ∧ d = .tup [x, y]
  | [], _, _, _, e => by simp [zipL] at e
  | _ :: _, [], _, _, e => by simp [zipL] at e
  | x :: xs, y :: ys, 0, d, e => by simp [zipL] at e; exact ⟨x, y, rfl, rfl, e.symm⟩
  | x :: xs, y :: ys, i + 1, d, e => by
    obtain ⟨a, b, h1, h2, h3⟩ := zipL_get (xs := xs) (ys := ys) (i := i) (d := d) (by simpa [zipL] using e)
    exact ⟨a, b, by simpa using h1, by simpa using h2, h3⟩
theorem zipL_length : ∀ {xs ys : List D}, (zipL xs ys).length = min xs.length ys.length
  | [], _ => by simp [zipL]
  | _ :: _, [] => by simp [zipL]
  | x :: xs, y :: ys => by simp [zipL, zipL_length (xs := xs) (ys := ys)]
theorem fix_enumL {R : Rc} {a : Addr} {C : Hp → Hp → Prop} {ds : List D} (h : ∀ Hf H, C Hf H → Sub Hf H → ∃ vs, SqL R.K H a vs ∧ RpA R Hf vs ds) : Fix R (Ite R.K a) C (enumL 0 ds) := by
  refine ⟨fun env σ Hf H Os i d c S e => ?_, fun Hf H i c S e => ?_⟩
  · obtain ⟨vs, q, r⟩ := h Hf H c S.sub
    rw [enumL_get, Nat.zero_add] at e
    cases q1 : ds[i]? with
    | none => rw [q1] at e; cases e
    | some d1 =>
      rw [q1] at e
      cases e
      obtain ⟨v, e1, r1⟩ := r.get q1
      refine ⟨⟨vs, v, q, e1⟩, fun x H' y => ?_⟩
      obtain ⟨T, x1, e2, n, e3, y⟩ := y
      subst e2 e3
      have := y vs q
      rw [e1] at this
      cases this
      exact pair_new S n (.int _) r1
  · obtain ⟨vs, q, r⟩ := h Hf H c S
    rw [enumL_length] at e
    exact ⟨vs, q, by rw [r.length]; exact e⟩
theorem fix_enumT {R : Rc} {a : Addr} {C : Hp → Hp → Prop} {ds : List D} (h : ∀ Hf H, C Hf H → Sub Hf H → ∃ vs, SqT R.K H a vs ∧ RpA R Hf vs ds) : Fix R (IteT R.K a) C (enumL 0 ds) := by
  refine ⟨fun env σ Hf H Os i d c S e => ?_, fun Hf H i c S e => ?_⟩
  · obtain ⟨vs, q, r⟩ := h Hf H c S.sub
    rw [enumL_get, Nat.zero_add] at e
    cases q1 : ds[i]? with
    | none => rw [q1] at e; cases e
    | some d1 =>
      rw [q1] at e
      cases e
      obtain ⟨v, e1, r1⟩ := r.get q1
      refine ⟨⟨vs, v, q, e1⟩, fun x H' y => ?_⟩
      obtain ⟨T, x1, e2, n, e3, y⟩ := y
      subst e2 e3
      have := y vs q
      rw [e1] at this
      cases this
      exact pair_new S n (.int _) r1
  · obtain ⟨vs, q, r⟩ := h Hf H c S
    rw [enumL_length] at e
    exact ⟨vs, q, by rw [r.length]; exact e⟩
theorem fix_enumS {R : Rc} {C : Hp → Hp → Prop} (z : List Nat) : Fix R (IteS ⟨z.toArray⟩) C (enumL 0 (z.map fun c => .str [c])) := by
  refine ⟨fun env σ Hf H Os i d c S e => ?_, fun Hf H i c S e => ?_⟩
  · rw [enumL_get, Nat.zero_add, List.getElem?_map] at e
    cases q : z[i]? with
    | none => rw [q] at e; cases e
    | some k =>
      rw [q] at e
      cases e
      have hi := (List.getElem?_eq_some_iff.mp q).1
      refine ⟨by show i < z.toArray.size; simpa using hi, fun x H' y => ?_⟩
      obtain ⟨T, c', e2, n, e3, e4⟩ := y
      subst e2 e3
      have e4 : z.toArray[i]? = some c' := e4
      have : z[i]? = some c' := by simpa using e4
      rw [q] at this
      cases this
      exact pair_new S n (.int _) (.str [k])
  · show z.toArray.size ≤ i
    rw [enumL_length] at e
    simpa using e
theorem fix_zipL {R : Rc} {a b : Addr} {C : Hp → Hp → Prop} {ds es : List D} (h : ∀ Hf H, C Hf H → Sub Hf H → ∃ vs us, SqL R.K H a vs ∧ SqL R.K H b us ∧ RpA R Hf vs ds ∧ RpA R Hf us es) : Fix R (Itz R.K a b) C (zipL ds es) := by
  refine ⟨fun env σ Hf H Os i d c S e => ?_, fun Hf H i c S e => ?_⟩
  · obtain ⟨vs, us, q, q', r, r'⟩ := h Hf H c S.sub
    obtain ⟨d1, d2, g1, g2, rfl⟩ := zipL_get e
    obtain ⟨v, e1, r1⟩ := r.get g1
    obtain ⟨u, e2, r2⟩ := r'.get g2
    refine ⟨⟨vs, us, v, u, q, q', e1, e2⟩, fun x H' y => ?_⟩
    obtain ⟨T, x1, x2, e3, n, e4, y, y'⟩ := y
    subst e3 e4
    have := y vs q
    rw [e1] at this
    cases this
    have := y' us q'
    rw [e2] at this
    cases this
    exact pair_new S n r1 r2
  · obtain ⟨vs, us, q, q', r, r'⟩ := h Hf H c S
    rw [zipL_length] at e
    exact ⟨vs, us, q, q', by rw [r.length, r'.length]; omega⟩
theorem fix_zipT {R : Rc} {a b : Addr} {C : Hp → Hp → Prop} {ds es : List D} (h : ∀ Hf H, C Hf H → Sub Hf H → ∃ vs us, SqT R.K H a vs ∧ SqT R.K H b us ∧ RpA R Hf vs ds ∧ RpA R Hf us es) : Fix R (RZ.ItzT R.K a b) C (zipL ds es) := by
  refine ⟨fun env σ Hf H Os i d c S e => ?_, fun Hf H i c S e => ?_⟩
  · obtain ⟨vs, us, q, q', r, r'⟩ := h Hf H c S.sub
    obtain ⟨d1, d2, g1, g2, rfl⟩ := zipL_get e
    obtain ⟨v, e1, r1⟩ := r.get g1
    obtain ⟨u, e2, r2⟩ := r'.get g2
    refine ⟨⟨vs, us, v, u, q, q', e1, e2⟩, fun x H' y => ?_⟩
    obtain ⟨T, x1, x2, e3, n, e4, y, y'⟩ := y
    subst e3 e4
    have := y vs q
    rw [e1] at this
    cases this
    have := y' us q'
    rw [e2] at this
    cases this
    exact pair_new S n r1 r2
  · obtain ⟨vs, us, q, q', r, r'⟩ := h Hf H c S
    rw [zipL_length] at e
    exact ⟨vs, us, q, q', by rw [r.length, r'.length]; omega⟩
end
end RE
end

section
set_option linter.all false
set_option maxRecDepth 100000
set_option maxHeartbeats 4000000
/-! RE14: sources of for and of comprehensions. -/
namespace RE
open PySem PySem.Spec PyProof.Rows L2

section
variable {X : Cx} {fa : Nat → Option Addr} {tg e e2 a b : Expr} {pos p tpos : Pos} {elts : List Expr} {kk : Nat} {f g : RE.Env → Out D}
def iEnumT (K : PySem.W.Frag) (ta : TA) : TI := fun σ H R => ta σ H fun vs H1 => ∃ a xs, vs = [.ref a] ∧ SqT K H1 a xs ∧ R (IteT K a) H1
def iEnumS (ta : TA) : TI := fun σ H R => ta σ H fun vs H1 => ∃ x, vs = [.str x] ∧ R (IteS x) H1
theorem fresh2 {pins : List (Addr × Obj)} {σ : L2.St} {H : Hp} {s : Shared} (I : Inv X pins σ H s) : ∀ b ∈ [s.heap.objs.size + 1, s.heap.objs.size], FpOk X pins H b := fun b hb => by
  have e' : b = s.heap.objs.size + 1 ∨ b = s.heap.objs.size := by simpa using hb
  have hle : s.heap.objs.size ≤ b := by
    rcases e' with z | z
    · rw [z]; exact Nat.le_add_right _ _
    · rw [z]; exact Nat.le_refl _
  exact I.fpOk hle (I.hok.fresh hle)
theorem pi_enumT {ta : TA} (hg : Gl X "enumerate") (hm : X.mg "enumerate" = none) (ha : PA X [e] ta) (hs : starEach [e] X.env = [(false, eval e X.env)]) :
    PI X (.Tuple elts kk tpos) (.Call (.Name "enumerate" p) [e] [] pos) (iEnumT X.K ta) := by
  refine ⟨fun pins s σ H R I h => ?_⟩
  refine Call_ (ld_blt I hg hm boot_enumerate (PyProof.Rows.callWith_type1 (thn (ha.run pos pins s σ H _ I h) fun us s1 ⟨vs, H1, I1, r1, q1⟩ => ?_) hs rfl))
  obtain ⟨a, xs, ex, hq, q⟩ := q1
  subst ex
  cases r1 with
  | cons r rr =>
    cases rr
    cases r
    obtain ⟨its, rv, p', hz⟩ := I1.tuple hq
    refine call_enumerateB (begins_tuple a its.toArray) p' fun h' he hit hsz hk => wpAny_pyIter_enum he ?_
    have I2 : Inv X pins σ H1 { s1 with heap := h' } := I1.kept (t' := s1.toks) hk
    exact ⟨s1.heap.objs.size + 1, [s1.heap.objs.size + 1, s1.heap.objs.size], _, _, H1, rfl, I2, turn_enumT a (s1.heap.objs.size + 1) s1.heap.objs.size, ⟨⟨.none, he⟩, ⟨_, hit, rfl, rfl⟩, Nat.succ_ne_self _⟩, fresh2 I1, q⟩
theorem pi_enumS {ta : TA} (hg : Gl X "enumerate") (hm : X.mg "enumerate" = none) (ha : PA X [e] ta) (hs : starEach [e] X.env = [(false, eval e X.env)]) :
    PI X (.Tuple elts kk tpos) (.Call (.Name "enumerate" p) [e] [] pos) (iEnumS ta) := by
  refine ⟨fun pins s σ H R I h => ?_⟩
  refine Call_ (ld_blt I hg hm boot_enumerate (PyProof.Rows.callWith_type1 (thn (ha.run pos pins s σ H _ I h) fun us s1 ⟨vs, H1, I1, r1, q1⟩ => ?_) hs rfl))
  obtain ⟨x, ex, q⟩ := q1
  subst ex
  cases r1 with
  | cons r rr =>
    cases rr
    obtain ⟨t, rfl⟩ := r
    refine call_enumerateB (begins_text x t) trivial fun h' he hit hsz hk => wpAny_pyIter_enum he ?_
    have I2 : Inv X pins σ H1 { s1 with heap := h' } := I1.kept (t' := s1.toks) hk
    exact ⟨s1.heap.objs.size + 1, [s1.heap.objs.size + 1, s1.heap.objs.size], _, _, H1, rfl, I2, turn_enumS x t (s1.heap.objs.size + 1) s1.heap.objs.size, ⟨⟨.none, he⟩, ⟨_, hit, rfl, rfl⟩, Nat.succ_ne_self _⟩, fresh2 I1, q⟩

/-! ### by trees -/
theorem ldL {R : Rc} {C : Hp → Hp → Prop} {a : Addr} {ds : List D} (h : ∀ Hf H, C Hf H → Ld R Hf H (.ref a) (.lst ds)) : ∀ Hf H, C Hf H → Sub Hf H → ∃ vs, SqL R.K H a vs ∧ RpA R Hf vs ds := fun Hf H c s => by
  obtain ⟨a', vs, e, rd, r⟩ := (h Hf H c).lst' s
  cases e
  exact ⟨vs, .inl rd, r⟩
theorem ldT {R : Rc} {C : Hp → Hp → Prop} {a : Addr} {ds : List D} (h : ∀ Hf H, C Hf H → Ld R Hf H (.ref a) (.tup ds)) : ∀ Hf H, C Hf H → Sub Hf H → ∃ vs, SqT R.K H a vs ∧ RpA R Hf vs ds := fun Hf H c s => by
  obtain ⟨a', vs, e, rd, r⟩ := (h Hf H c).tup
  cases e
  exact ⟨vs, s.tup rd, r⟩
/-- what the source's value gives -/
theorem src_val {K : PySem.W.Frag} {R : Rc} (hK : R.K = K) {C : Hp → Hp → Prop} {Hf H : Hp} {v : V} {d : D} {xs : List D} (l : ∀ Hf H, C Hf H → Ld R Hf H v d) (c : C Hf H) (s : Sub Hf H) (e : itemsOf d = .ok xs) (Q : L2.It → Prop) (q : ∀ J, Fix R J C xs → Q J) :
    match d with
    | .lst _ => ∃ a, v = .ref a ∧ (∃ xs, SqL K H a xs) ∧ Q (Itl K a)
    | .tup _ => ∃ a, v = .ref a ∧ (∃ xs, SqT K H a xs) ∧ Q (Itt K a)
    | .str _ => ∃ x, v = .str x ∧ Q (Its x)
    | _ => False := by
  subst hK
  cases d with
  | lst ds =>
    cases e
    obtain ⟨a, vs, rfl, rd, r⟩ := (l Hf H c).lst' s
    exact ⟨a, rfl, ⟨vs, .inl rd⟩, q _ (fix_list (ldL l))⟩
  | tup ds =>
    cases e
    obtain ⟨a, vs, rfl, rd, r⟩ := (l Hf H c).tup
    exact ⟨a, rfl, ⟨vs, s.tup rd⟩, q _ (fix_tup (ldT l))⟩
  | str z =>
    obtain ⟨_, e⟩ := chk_eq_ok e
    cases e
    exact ⟨_, (l Hf H c).str, q _ (fix_str z)⟩
  | _ => cases e
theorem src_enum {K : PySem.W.Frag} {R : Rc} (hK : R.K = K) {C : Hp → Hp → Prop} {Hf H : Hp} {v : V} {d : D} {xs : List D} (l : ∀ Hf H, C Hf H → Ld R Hf H v d) (c : C Hf H) (s : Sub Hf H) (e : itemsOf d = .ok xs) (Q : L2.It → Prop) (q : ∀ J, Fix R J C (enumL 0 xs) → Q J) :
    match d with
    | .lst _ => ∃ a xs, [v] = [.ref a] ∧ SqL K H a xs ∧ Q (Ite K a)
    | .tup _ => ∃ a xs, [v] = [.ref a] ∧ SqT K H a xs ∧ Q (IteT K a)
    | .str _ => ∃ x, [v] = [.str x] ∧ Q (IteS x)
    | _ => False := by
  subst hK
  cases d with
  | lst ds =>
    cases e
    obtain ⟨a, vs, rfl, rd, r⟩ := (l Hf H c).lst' s
    exact ⟨a, vs, rfl, .inl rd, q _ (fix_enumL (ldL l))⟩
  | tup ds =>
    cases e
    obtain ⟨a, vs, rfl, rd, r⟩ := (l Hf H c).tup
    exact ⟨a, vs, rfl, s.tup rd, q _ (fix_enumT (ldT l))⟩
  | str z =>
    obtain ⟨_, e⟩ := chk_eq_ok e
    cases e
    exact ⟨_, by rw [(l Hf H c).str], q _ (fix_enumS z)⟩
  | _ => cases e
theorem src_zip {K : PySem.W.Frag} {R : Rc} (hK : R.K = K) {C : Hp → Hp → Prop} {Hf H : Hp} {v u : V} {d d' : D} {xs ys : List D} (l : ∀ Hf H, C Hf H → Ld R Hf H v d) (l' : ∀ Hf H, C Hf H → Ld R Hf H u d') (c : C Hf H) (s : Sub Hf H) (e : itemsOf d = .ok xs) (e' : itemsOf d' = .ok ys)
    (hd : (∃ p q, d = .lst p ∧ d' = .lst q) ∨ (∃ p q, d = .tup p ∧ d' = .tup q)) (Q : L2.It → Prop) (q : ∀ J, Fix R J C (zipL xs ys) → Q J) :
    ∃ a b xs ys, [v, u] = [.ref a, .ref b] ∧ ((SqL K H a xs ∧ SqL K H b ys ∧ Q (Itz K a b)) ∨ (SqT K H a xs ∧ SqT K H b ys ∧ Q (RZ.ItzT K a b))) := by
  subst hK
  rcases hd with ⟨p1, p2, rfl, rfl⟩ | ⟨p1, p2, rfl, rfl⟩
  · cases e; cases e'
    obtain ⟨a, vs, rfl, rd, r⟩ := (l Hf H c).lst' s
    obtain ⟨b, us, rfl, rd', r'⟩ := (l' Hf H c).lst' s
    exact ⟨a, b, vs, us, rfl, .inl ⟨.inl rd, .inl rd', q _ (fix_zipL fun Hf H c s => let ⟨vs, h1, h2⟩ := ldL l Hf H c s; let ⟨us, h3, h4⟩ := ldL l' Hf H c s; ⟨vs, us, h1, h3, h2, h4⟩)⟩⟩
  · cases e; cases e'
    obtain ⟨a, vs, rfl, rd, r⟩ := (l Hf H c).tup
    obtain ⟨b, us, rfl, rd', r'⟩ := (l' Hf H c).tup
    exact ⟨a, b, vs, us, rfl, .inr ⟨s.tup rd, s.tup rd', q _ (fix_zipT fun Hf H c s => let ⟨vs, h1, h2⟩ := ldT l Hf H c s; let ⟨us, h3, h4⟩ := ldT l' Hf H c s; ⟨vs, us, h1, h3, h2, h4⟩)⟩⟩
theorem zipOk_of {d d' : D} (h : zipOk d d' = true) : (∃ p q, d = .lst p ∧ d' = .lst q) ∨ (∃ p q, d = .tup p ∧ d' = .tup q) := by
  unfold zipOk at h
  split at h
  · exact .inl ⟨_, _, rfl, rfl⟩
  · exact .inr ⟨_, _, rfl, rfl⟩
  · cases h

theorem pil_val (p : PE X e (tL X fa f)) : PI X tg e (tIL X fa fun env => (f env).bind itemsOf) := PI.imp (PI_or (PI_or (pi_list p) (pi_tup p)) (pi_str p)) fun σ H R ⟨env, Hf, Os, xs, S, e, q⟩ => by
  obtain ⟨d, e1, e2⟩ := Out.bind_eq_ok e
  have key := fun v Hf1 H1 (S1 : Sim (rc X fa) env σ Hf1 H1 Os) (st1 : Stp W0 Hf H Hf1 H1) (l : Ld (rc X fa) Hf1 H1 v d) => src_val (K := X.K) (R := rc X fa) rfl (C := fun Hf2 H2 => Same Hf1 Hf2 ∧ Same H1 H2) (Hf := Hf1) (H := H1) (v := v) (fun _ _ c => l.mono c.1 c.2) ⟨Same.refl _, Same.refl _⟩ S1.sub e2 (fun J => R J H1) fun J F => q J Hf1 H1 S1 st1 F
  cases d with
  | lst ds => exact .inl (.inl ⟨env, Hf, Os, _, S, e1, key⟩)
  | tup ds => exact .inl (.inr ⟨env, Hf, Os, _, S, e1, key⟩)
  | str z => exact .inr ⟨env, Hf, Os, _, S, e1, key⟩
  | _ => cases e2
theorem pi_valP (p : PE X e (tP X fa f)) : PI X tg e (tI X fa fun env => (f env).bind itemsOf) := PI.imp (PI_or (PI_or (pi_list p) (pi_tup p)) (pi_str p)) fun σ H R ⟨env, Hf, Os, xs, S, e, q⟩ => by
  obtain ⟨d, e1, e2⟩ := Out.bind_eq_ok e
  have key := fun v Hf1 H1 (S1 : Sim (rc X fa) env σ Hf1 H1 Os) (st1 : Stp W0 Hf H Hf1 H1) (l : Rp (rc X fa) Hf1 v d) => src_val (K := X.K) (R := rc X fa) rfl (C := fun Hf2 H2 => Same Hf1 Hf2) (Hf := Hf1) (H := H1) (v := v) (fun _ _ c => .rp (l.sub (sameSub c))) (Same.refl _) S1.sub e2 (fun J => R J H1) fun J F => q J Hf1 H1 S1 st1 F
  cases d with
  | lst ds => exact .inl (.inl ⟨env, Hf, Os, _, S, e1, key⟩)
  | tup ds => exact .inl (.inr ⟨env, Hf, Os, _, S, e1, key⟩)
  | str z => exact .inr ⟨env, Hf, Os, _, S, e1, key⟩
  | _ => cases e2
theorem pil_enum (hg : Gl X "enumerate") (hm : X.mg "enumerate" = none) (hpl : PA X [e] (tLs X fa fun env => (f env).bind fun d => .ok [d])) (hs : starEach [e] X.env = [(false, eval e X.env)]) :
    PI X (.Tuple elts kk tpos) (.Call (.Name "enumerate" p) [e] [] pos) (tIL X fa fun env => (f env).bind fun d => (itemsOf d).bind fun xs => .ok (enumL 0 xs)) := PI.imp (PI_or (PI_or (pi_enum hg hm hpl hs) (pi_enumT hg hm hpl hs)) (pi_enumS hg hm hpl hs)) fun σ H R ⟨env, Hf, Os, xs, S, e, q⟩ => by
  obtain ⟨d, e1, e⟩ := Out.bind_eq_ok e
  obtain ⟨ys, e2, e⟩ := Out.bind_eq_ok e
  cases e
  have e1' : ((f env).bind fun d => (.ok [d] : Out (List D))) = .ok [d] := by rw [e1]; rfl
  have key := fun v Hf1 H1 (S1 : Sim (rc X fa) env σ Hf1 H1 Os) (st1 : Stp W0 Hf H Hf1 H1) (l : Ld (rc X fa) Hf1 H1 v d) => src_enum (K := X.K) (R := rc X fa) rfl (C := fun Hf2 H2 => Same Hf1 Hf2 ∧ Same H1 H2) (Hf := Hf1) (H := H1) (v := v) (fun _ _ c => l.mono c.1 c.2) ⟨Same.refl _, Same.refl _⟩ S1.sub e2 (fun J => R J H1) fun J F => q J Hf1 H1 S1 st1 F
  cases d with
  | lst ds => exact .inl (.inl ⟨env, Hf, Os, _, S, e1', fun vs Hf1 H1 S1 st1 r1 => by obtain ⟨v, rfl, l⟩ := r1.one; exact key v Hf1 H1 S1 st1 l⟩)
  | tup ds => exact .inl (.inr ⟨env, Hf, Os, _, S, e1', fun vs Hf1 H1 S1 st1 r1 => by obtain ⟨v, rfl, l⟩ := r1.one; exact key v Hf1 H1 S1 st1 l⟩)
  | str z => exact .inr ⟨env, Hf, Os, _, S, e1', fun vs Hf1 H1 S1 st1 r1 => by obtain ⟨v, rfl, l⟩ := r1.one; exact key v Hf1 H1 S1 st1 l⟩
  | _ => cases e2
theorem RpA.one {R : Rc} {H : Hp} {vs : List V} {d : D} (h : RpA R H vs [d]) : ∃ v, vs = [v] ∧ Rp R H v d := by
  cases h with | cons a b => cases b; exact ⟨_, rfl, a⟩
theorem RpA.two {R : Rc} {H : Hp} {vs : List V} {d e : D} (h : RpA R H vs [d, e]) : ∃ v u, vs = [v, u] ∧ Rp R H v d ∧ Rp R H u e := by
  cases h with | cons a b => cases b with | cons b c => cases c; exact ⟨_, _, rfl, a, b⟩
theorem pi_enumP (hg : Gl X "enumerate") (hm : X.mg "enumerate" = none) (hpl : PA X [e] (tPs X fa fun env => (f env).bind fun d => .ok [d])) (hs : starEach [e] X.env = [(false, eval e X.env)]) :
    PI X (.Tuple elts kk tpos) (.Call (.Name "enumerate" p) [e] [] pos) (tI X fa fun env => (f env).bind fun d => (itemsOf d).bind fun xs => .ok (enumL 0 xs)) := PI.imp (PI_or (PI_or (pi_enum hg hm hpl hs) (pi_enumT hg hm hpl hs)) (pi_enumS hg hm hpl hs)) fun σ H R ⟨env, Hf, Os, xs, S, e, q⟩ => by
  obtain ⟨d, e1, e⟩ := Out.bind_eq_ok e
  obtain ⟨ys, e2, e⟩ := Out.bind_eq_ok e
  cases e
  have e1' : ((f env).bind fun d => (.ok [d] : Out (List D))) = .ok [d] := by rw [e1]; rfl
  have key := fun v Hf1 H1 (S1 : Sim (rc X fa) env σ Hf1 H1 Os) (st1 : Stp W0 Hf H Hf1 H1) (l : Rp (rc X fa) Hf1 v d) => src_enum (K := X.K) (R := rc X fa) rfl (C := fun Hf2 H2 => Same Hf1 Hf2) (Hf := Hf1) (H := H1) (v := v) (fun _ _ c => .rp (l.sub (sameSub c))) (Same.refl _) S1.sub e2 (fun J => R J H1) fun J F => q J Hf1 H1 S1 st1 F
  cases d with
  | lst ds => exact .inl (.inl ⟨env, Hf, Os, _, S, e1', fun vs Hf1 H1 S1 st1 r1 => by obtain ⟨v, rfl, l⟩ := r1.one; exact key v Hf1 H1 S1 st1 l⟩)
  | tup ds => exact .inl (.inr ⟨env, Hf, Os, _, S, e1', fun vs Hf1 H1 S1 st1 r1 => by obtain ⟨v, rfl, l⟩ := r1.one; exact key v Hf1 H1 S1 st1 l⟩)
  | str z => exact .inr ⟨env, Hf, Os, _, S, e1', fun vs Hf1 H1 S1 st1 r1 => by obtain ⟨v, rfl, l⟩ := r1.one; exact key v Hf1 H1 S1 st1 l⟩
  | _ => cases e2
theorem zipD_ok {ds zs : List D} (h : zipD ds = .ok zs) : ∃ x y xs ys, ds = [x, y] ∧ zipOk x y = true ∧ itemsOf x = .ok xs ∧ itemsOf y = .ok ys ∧ zs = zipL xs ys := by
  unfold zipD at h
  split at h
  · obtain ⟨h1, h⟩ := chk_eq_ok h
    obtain ⟨xs, h2, h⟩ := Out.bind_eq_ok h
    obtain ⟨ys, h3, h⟩ := Out.bind_eq_ok h
    cases h
    exact ⟨_, _, xs, ys, rfl, h1, h2, h3, rfl⟩
  · cases h
theorem pil_zip {fs : RE.Env → Out (List D)} (hg : Gl X "zip") (hm : X.mg "zip" = none) (ha : PA X [e, e2] (tLs X fa fs)) (hs : starEach [e, e2] X.env = (false, eval e X.env) :: starEach [e2] X.env) (hpl : (backTo pos (starEach [e2] X.env)).any (·.1) = false) :
    PI X (.Tuple elts kk tpos) (.Call (.Name "zip" p) [e, e2] [] pos) (tIL X fa fun env => (fs env).bind zipD) := PI.imp (RZ.pi_zipA hg hm ha hs hpl) fun σ H R ⟨env, Hf, Os, xs, S, e, q⟩ => by
  obtain ⟨ds, e1, e⟩ := Out.bind_eq_ok e
  obtain ⟨d, d', ys, zs, rfl, h1, h2, h3, rfl⟩ := zipD_ok e
  refine ⟨env, Hf, Os, _, S, e1, fun vs Hf1 H1 S1 st1 r1 => ?_⟩
  obtain ⟨v, u, rfl, l, l'⟩ := r1.two
  exact src_zip (K := X.K) (R := rc X fa) rfl (C := fun Hf2 H2 => Same Hf1 Hf2 ∧ Same H1 H2) (fun _ _ c => l.mono c.1 c.2) (fun _ _ c => l'.mono c.1 c.2) ⟨Same.refl _, Same.refl _⟩ S1.sub h2 h3 (zipOk_of h1) (fun J => R J H1) fun J F => q J Hf1 H1 S1 st1 F
theorem pi_zipP {fs : RE.Env → Out (List D)} (hg : Gl X "zip") (hm : X.mg "zip" = none) (ha : PA X [e, e2] (tPs X fa fs)) (hs : starEach [e, e2] X.env = (false, eval e X.env) :: starEach [e2] X.env) (hpl : (backTo pos (starEach [e2] X.env)).any (·.1) = false) :
    PI X (.Tuple elts kk tpos) (.Call (.Name "zip" p) [e, e2] [] pos) (tI X fa fun env => (fs env).bind zipD) := PI.imp (RZ.pi_zipA hg hm ha hs hpl) fun σ H R ⟨env, Hf, Os, xs, S, e, q⟩ => by
  obtain ⟨ds, e1, e⟩ := Out.bind_eq_ok e
  obtain ⟨d, d', ys, zs, rfl, h1, h2, h3, rfl⟩ := zipD_ok e
  refine ⟨env, Hf, Os, _, S, e1, fun vs Hf1 H1 S1 st1 r1 => ?_⟩
  obtain ⟨v, u, rfl, l, l'⟩ := r1.two
  exact src_zip (K := X.K) (R := rc X fa) rfl (C := fun Hf2 H2 => Same Hf1 Hf2) (fun _ _ c => .rp (l.sub (sameSub c))) (fun _ _ c => .rp (l'.sub (sameSub c))) (Same.refl _) S1.sub h2 h3 (zipOk_of h1) (fun J => R J H1) fun J F => q J Hf1 H1 S1 st1 F
theorem rng_ok {ds xs : List D} (h : rng ds = .ok xs) : (∃ j : Int, ds = [.int j] ∧ -(2 ^ 62) ≤ j ∧ j < 2 ^ 62 ∧ xs = rngL 0 j.toNat) ∨ (∃ i j : Int, ds = [.int i, .int j] ∧ (-(2 ^ 62) ≤ i ∧ i < 2 ^ 62 ∧ -(2 ^ 62) ≤ j ∧ j < 2 ^ 62) ∧ xs = rngL i (j - i).toNat) := by
  unfold rng at h
  split at h
  · obtain ⟨h1, h⟩ := chk_eq_ok h
    cases h
    have := of_decide_eq_true h1
    exact .inl ⟨_, rfl, this.1, this.2, rfl⟩
  · obtain ⟨h1, h⟩ := chk_eq_ok h
    cases h
    exact .inr ⟨_, _, rfl, of_decide_eq_true h1, rfl⟩
  · cases h
theorem pi_rng1 {fs : RE.Env → Out (List D)} (hg : Gl X "range") (hm : X.mg "range" = none) (ha : PA X [a] (tPs X fa fs)) (hl : ∀ env ds, fs env = .ok ds → ds.length = 1) (hs : starEach [a] X.env = [(false, eval a X.env)]) :
    PI X tg (.Call (.Name "range" p) [a] [] pos) (tI X fa fun env => (fs env).bind rng) := PI.imp (pi_range1 hg hm ha hs) fun σ H R ⟨env, Hf, Os, xs, S, e, q⟩ => by
  obtain ⟨ds, e1, e⟩ := Out.bind_eq_ok e
  refine ⟨env, Hf, Os, _, S, e1, fun vs Hf1 H1 S1 st1 r1 => ?_⟩
  rcases rng_ok e with ⟨j, rfl, h1, h2, rfl⟩ | ⟨i, j, rfl, _⟩
  · obtain ⟨v, rfl, r⟩ := r1.one
    cases r
    exact ⟨j, rfl, h1, h2, q _ Hf1 H1 S1 st1 (fix_rng 0 _)⟩
  · have := hl _ _ e1; simp at this
theorem pi_rng2 {fs : RE.Env → Out (List D)} (hg : Gl X "range") (hm : X.mg "range" = none) (ha : PA X [a, b] (tPs X fa fs)) (hl : ∀ env ds, fs env = .ok ds → ds.length = 2) (hs : starEach [a, b] X.env = [(false, eval a X.env), (false, eval b X.env)]) (hs2 : starEach [b] X.env = [(false, eval b X.env)]) :
    PI X tg (.Call (.Name "range" p) [a, b] [] pos) (tI X fa fun env => (fs env).bind rng) := PI.imp (pi_range2 hg hm ha hs hs2) fun σ H R ⟨env, Hf, Os, xs, S, e, q⟩ => by
  obtain ⟨ds, e1, e⟩ := Out.bind_eq_ok e
  refine ⟨env, Hf, Os, _, S, e1, fun vs Hf1 H1 S1 st1 r1 => ?_⟩
  rcases rng_ok e with ⟨j, rfl, h1, h2, rfl⟩ | ⟨i, j, rfl, h1, rfl⟩
  · have := hl _ _ e1; simp at this
  · obtain ⟨v, u, rfl, r, r'⟩ := r1.two
    cases r
    cases r'
    exact ⟨i, j, rfl, h1, q _ Hf1 H1 S1 st1 (fix_rng i _)⟩
theorem pi_low {f : RE.Env → Out (List D)} (h : PI X tg e (tI X fa f)) : PI X tg e (tIL X fa f) := PI.imp h fun σ H R ⟨env, Hf, Os, xs, S, e, q⟩ => ⟨env, Hf, Os, xs, S, e, fun J Hf1 H1 S1 st1 F => q J Hf1 H1 S1 st1 (F.weak fun _ _ c => c.1)⟩
end
end RE
end

section
set_option linter.all false
set_option maxRecDepth 100000
set_option maxHeartbeats 4000000
/-! RE15: targets; comprehensions. -/
namespace RE
open PySem PySem.Spec PyProof.Rows L2

/-! ### slots -/
section
variable {R : Rc} {env : RE.Env} {σ : L2.St} {Hf H : Hp} {Os : Nat → List Addr} {v : V} {d : D}
/-- a slot takes what s says; its objects are O -/
theorem Sim.put (S : Sim R env σ Hf H Os) (i : Nat) {s : Slot} {sv : Option V} {O : List Addr} (h : SlotOk R Hf H O s sv) (nd : O.Nodup) (ap : ∀ j, j ≠ i → ∀ b ∈ O, b ∉ Os j) (nw : ∀ b ∈ O, Hf b = none) (hi : i < env.length ∨ O = []) :
    Sim R (env.set i s) (σ.set i sv) Hf H (fun j => if j = i then O else Os j) := by
  refine ⟨by rw [List.length_set, List.length_set]; exact S.len, S.sub, fun j t e => ?_, fun j hj => ?_, fun j k a ha hk => ?_, fun j => ?_, fun j a ha => ?_⟩
  · by_cases hj : j = i
    · subst hj
      have hl : j < env.length := by have := (List.getElem?_eq_some_iff.mp e).1; rwa [List.length_set] at this
      rw [List.getElem?_set_self hl] at e
      cases e
      exact ⟨sv, List.getElem?_set_self (by rw [← S.len]; exact hl), by rw [if_pos rfl]; exact h⟩
    · rw [List.getElem?_set_ne (fun z => hj z.symm)] at e
      obtain ⟨sv', e1, h1⟩ := S.slot j t e
      exact ⟨sv', by rw [List.getElem?_set_ne (fun z => hj z.symm)]; exact e1, by rw [if_neg hj]; exact h1⟩
  · rw [List.length_set] at hj
    by_cases hji : j = i
    · subst hji
      rw [if_pos rfl]
      rcases hi with hi | hi
      · omega
      · exact hi
    · rw [if_neg hji]; exact S.out j hj
  · by_cases h1 : j = i <;> by_cases h2 : k = i
    · rw [h1, h2]
    · rw [if_pos h1] at ha; rw [if_neg h2] at hk; exact absurd hk (ap k h2 a ha)
    · rw [if_neg h1] at ha; rw [if_pos h2] at hk; exact absurd ha (ap j h1 a hk)
    · rw [if_neg h1] at ha; rw [if_neg h2] at hk; exact S.dis j k a ha hk
  · by_cases h1 : j = i
    · rw [if_pos h1]; exact nd
    · rw [if_neg h1]; exact S.nod j
  · by_cases h1 : j = i
    · rw [if_pos h1] at ha; exact nw a ha
    · rw [if_neg h1] at ha; exact S.new j a ha
theorem Sim.putV (S : Sim R env σ Hf H Os) (i : Nat) (r : Rp R Hf v d) : Sim R (setS env i d) (σ.set i (some v)) Hf H (fun j => if j = i then [] else Os j) :=
  S.put i (s := .val d) ⟨rfl, v, rfl, r⟩ List.nodup_nil (fun _ _ b hb => nomatch hb) (fun b hb => nomatch hb) (.inr rfl)
theorem Sim.putN (S : Sim R env σ Hf H Os) (i : Nat) (sv : Option V) : Sim R (env.set i .no) (σ.set i sv) Hf H (fun j => if j = i then [] else Os j) :=
  S.put i (s := .no) rfl List.nodup_nil (fun _ _ b hb => nomatch hb) (fun b hb => nomatch hb) (.inr rfl)
theorem Sim.wipe (S : Sim R env σ Hf H Os) : ∀ own : List Nat, ∃ Os1, Sim R (wipeS env own) (L2.wipe σ own) Hf H Os1 ∧ ∀ i b, b ∈ Os1 i → b ∈ Os i
  | [] => ⟨Os, S, fun _ _ h => h⟩
  | i :: is => by
    obtain ⟨Os1, S1, h1⟩ := Sim.wipe S is
    refine ⟨_, S1.putN i none, fun j b hb => ?_⟩
    split at hb
    · cases hb
    · exact h1 j b hb
theorem wipe_set {x : Option V} : ∀ {vs : List Nat} {i : Nat} {σ : L2.St}, i ∈ vs → L2.wipe (σ.set i x) vs = L2.wipe σ vs
  | v :: vs, i, σ, h => by
    unfold L2.wipe
    by_cases hi : i ∈ vs
    · rw [wipe_set hi]
    · rcases List.mem_cons.mp h with rfl | h
      · have : ∀ (vs : List Nat), i ∉ vs → (L2.wipe (σ.set i x) vs) = (L2.wipe σ vs).set i x := by
          intro vs
          induction vs with
          | nil => intro _; rfl
          | cons w ws ih =>
            intro hn
            unfold L2.wipe
            rw [ih (fun z => hn (List.mem_cons_of_mem _ z))]
            exact List.set_comm _ _ (fun z => hn (by rw [z]; exact List.mem_cons_self))
        rw [this vs hi, List.set_set]
      · exact absurd h hi
end

theorem wipe_wipe (σ : L2.St) (vs : List Nat) : L2.wipe (L2.wipe σ vs) vs = L2.wipe σ vs := by
  have key : ∀ ws : List Nat, (∀ w ∈ ws, w ∈ vs) → L2.wipe (L2.wipe σ ws) vs = L2.wipe σ vs := by
    intro ws
    induction ws with
    | nil => intro _; rfl
    | cons w ws ih =>
      intro h
      show L2.wipe ((L2.wipe σ ws).set w none) vs = _
      rw [wipe_set (h w List.mem_cons_self)]
      exact ih fun x hx => h x (List.mem_cons_of_mem _ hx)
  exact key vs fun _ h => h

/-! ### targets -/
def tgI : Tg → List Nat
  | .one i => [i]
  | .many is => is
def tG (X : Cx) (fa : Nat → Option Addr) (tg : Tg) : TG := fun v σ H Q => ∃ env Hf Os d env1, Sim (rc X fa) env σ Hf H Os ∧ Rp (rc X fa) Hf v d ∧ bindT tg d env = .ok env1 ∧
  ∀ σ1 Os1, Sim (rc X fa) env1 σ1 Hf H Os1 → (∀ i b, b ∈ Os1 i → b ∈ Os i) → (∀ vs, (∀ i ∈ tgI tg, i ∈ vs) → wipe σ1 vs = wipe σ vs) → Q σ1 H
theorem PG.imp {X : Cx} {e : Expr} {t t' : TG} (h : PG X e t) (i : ∀ v σ H Q, t' v σ H Q → t v σ H Q) : PG X e t' := ⟨fun pins s σ H v u Q I r q => h.run pins s σ H v u Q I r (i _ _ _ _ q)⟩
def gNames : List Nat → TGs
  | [] => gNil
  | i :: is => gCons (gName i) (gNames is)
section
variable {X : Cx} {fa : Nat → Option Addr} {pos : Pos}
theorem tg_one {e : Expr} {i : Nat} (h : PG X e (gName i)) : PG X e (tG X fa (.one i)) := PG.imp h fun v σ H Q ⟨env, Hf, Os, d, env1, S, r, e, q⟩ => by
  cases e
  refine q _ _ (S.putV i r) (fun j b hb => ?_) fun vs hv => wipe_set (hv i (by simp [tgI]))
  split at hb
  · cases hb
  · exact hb
theorem gNames_ok {R : Rc} {Hf H : Hp} : ∀ {is : List Nat} {vs : List V} {ds : List D} {env env1 : RE.Env} {σ : L2.St} {Os : Nat → List Addr} {Q : L2.St → Hp → Prop}, Sim R env σ Hf H Os → RpA R Hf vs ds → setsS env is ds = some env1 →
    (∀ σ1 Os1, Sim R env1 σ1 Hf H Os1 → (∀ i b, b ∈ Os1 i → b ∈ Os i) → (∀ vs, (∀ i ∈ is, i ∈ vs) → wipe σ1 vs = wipe σ vs) → Q σ1 H) → gNames is vs σ H Q
  | [], _, _, env, env1, σ, Os, Q, S, .nil, e, q => by
    cases e
    exact ⟨rfl, q σ Os S (fun _ _ h => h) fun _ _ => rfl⟩
  | [], _, _, env, env1, σ, Os, Q, S, .cons a b, e, q => by cases e
  | _ :: _, _, _, env, env1, σ, Os, Q, S, .nil, e, q => by cases e
  | i :: is, _, _, env, env1, σ, Os, Q, S, .cons a b, e, q => by
    refine ⟨_, _, rfl, ?_⟩
    refine gNames_ok (S.putV i a) b e fun σ1 Os1 S1 h1 h2 => q σ1 Os1 S1 (fun j b hb => ?_) fun vs hv => ?_
    · have hb := h1 j b hb
      split at hb
      · cases hb
      · exact hb
    · rw [h2 vs fun j hj => hv j (List.mem_cons_of_mem _ hj)]
      exact wipe_set (hv i List.mem_cons_self)
theorem tg_many {es : List Expr} {k : Nat} {is : List Nat} (hc : X.calm = true) (h : PGs X es (gNames is)) (hn : (assignEach es X.env).length = is.length) (hst : (assignEach es X.env).findIdx? (·.1) = none) : PG X (.Tuple es k pos) (tG X fa (.many is)) :=
  PG.imp (pg_tup hc h hn hst) fun v σ H Q ⟨env, Hf, Os, d, env1, S, r, e, q⟩ => by
    cases d <;> try (cases e; done)
    rename_i ds
    have e : ofO (setsS env is ds) = .ok env1 := e
    have e := ofO_eq_ok e
    cases r with
    | tup h1 r =>
      refine ⟨_, _, rfl, S.sub.tup h1, ?_, gNames_ok S r e q⟩
      have len : ∀ {is : List Nat} {ds : List D} {env : RE.Env}, setsS env is ds = some env1 → ds.length = is.length := by
        intro is
        induction is with
        | nil => intro ds env e; cases ds with | nil => rfl | cons a b => cases e
        | cons i is ih => intro ds env e; cases ds with | nil => cases e | cons a b => exact congrArg (· + 1) (ih e)
      rw [r.length, len e]

/-! ### a list comprehension -/
abbrev fBody (cf ef : RE.Env → Out D) (tg : Tg) (own : List Nat) (env : RE.Env) : D → Out (List D) := fun x => (bindT tg x (wipeS env own)).bind fun env1 => (cf env1).bind fun c => (ofO (truth c)).bind fun t => match t with
  | true => (ef env1).bind fun d => .ok [d]
  | false => .ok []
abbrev fComp (sf : RE.Env → Out (List D)) (cf ef : RE.Env → Out D) (tg : Tg) (own : List Nat) : RE.Env → Out (List D) := fun env => (sf env).bind fun items => chk (inLim items.length) (mapO (fBody cf ef tg own env) items)
theorem mapO_get {α β : Type} {f : α → Out (List β)} : ∀ {l : List α} {zs : List β} {i : Nat}, mapO f l = .ok zs → i ≤ l.length → ∃ a b, mapO f (l.take i) = .ok a ∧ mapO f (l.drop i) = .ok b ∧ zs = a ++ b
  | _, zs, 0, h, _ => ⟨[], zs, rfl, h, rfl⟩
  | x :: l, zs, i + 1, h, hi => by
    obtain ⟨ys, h1, h⟩ := Out.bind_eq_ok h
    obtain ⟨ws, h2, h⟩ := Out.bind_eq_ok h
    cases h
    obtain ⟨a, b, q1, q2, rfl⟩ := mapO_get (i := i) h2 (by simpa using hi)
    refine ⟨ys ++ a, b, ?_, q2, (List.append_assoc ..).symm⟩
    show (f x).bind _ = _
    rw [h1]
    show (mapO f (l.take i)).bind _ = _
    rw [q1]
    rfl
theorem inLim_lt {n : Nat} (h : inLim n = true) : n ≤ 16777216 := of_decide_eq_true h
theorem lc_imp {tg : Tg} {own : List Nat} {sf : RE.Env → Out (List D)} {cf ef : RE.Env → Out D} (ht : ∀ i ∈ tgI tg, i ∈ own) {σ : L2.St} {H : Hp} {Q : VK} (h : tF X fa (fComp sf cf ef tg own) σ H Q) : tLc (tIL X fa sf) (tG X fa tg) (tT X fa cf) (tP X fa ef) own σ H Q := by
  obtain ⟨env, Hf, Os, out, S, e, q⟩ := h
  obtain ⟨items, e1, e⟩ := Out.bind_eq_ok e
  obtain ⟨hz, e⟩ := chk_eq_ok e
  have hz := inLim_lt hz
  refine ⟨env, Hf, Os, items, S, e1, fun J Hf1 H1 S1 st1 F L hL => ?_⟩
  have q := q.move st1
  clear S st1 e1
  have hLf : Hf1 L = none := S1.sub.none hL
  have hLo : ∀ i, L ∉ Os i := fun i hi => S1.there hi hL
  refine ⟨fun i m H => m = items.length - i ∧ i ≤ items.length ∧ ∃ Hf2 acc done rest, Sim (rc X fa) env σ Hf2 H Os ∧ Stp W0 Hf1 H1 Hf2 H ∧ H L = some (.lst acc) ∧ Hf2 L = none ∧ RpA (rc X fa) Hf2 acc done ∧ acc.length ≤ i ∧ mapO (fBody cf ef tg own env) (items.drop i) = .ok rest ∧ out = done ++ rest,
    ⟨items.length, by simp, Nat.zero_le _, Hf1, [], [], out, S1.allocH _ hL, Stp.allocH _ hL _, upd_same, hLf, .nil, Nat.le_refl _, e, rfl⟩, ?_⟩
  rintro i m H2 ⟨rfl, hi, Hf2, acc, done, rest, S2, st2, hH, hfL, ra, hacc, hr, ho⟩
  have c2 : Same Hf1 Hf2 ∧ Same H1 H2 := ⟨st2.fr, st2.same⟩
  by_cases hlt : i < items.length
  · have hd : items.drop i = items[i] :: items.drop (i + 1) := List.drop_eq_getElem_cons hlt
    rw [hd] at hr
    obtain ⟨ys, b1, hr⟩ := Out.bind_eq_ok hr
    obtain ⟨zs, b2, hr⟩ := Out.bind_eq_ok hr
    cases hr
    obtain ⟨go, nx⟩ := F.next env σ Hf2 H2 Os i items[i] c2 S2 (by simp [hlt])
    refine .inr ⟨go, fun H' => ∃ Hf2 acc, Sim (rc X fa) env σ Hf2 H' Os ∧ Stp W0 Hf1 H1 Hf2 H' ∧ H' L = some (.lst acc) ∧ Hf2 L = none ∧ RpA (rc X fa) Hf2 acc (done ++ ys) ∧ acc.length ≤ i + 1, fun H' ⟨Hf3, acc3, S3, st3, h3, f3, r3, l3⟩ => ⟨items.length - (i + 1), by omega, rfl, hlt, Hf3, acc3, done ++ ys, zs, S3, st3, h3, f3, r3, l3, b2, by rw [ho, List.append_assoc]⟩, fun x H3 y => ?_⟩
    obtain ⟨Hf3, S3, st3, rx⟩ := nx x H3 y
    obtain ⟨env1, t1, b1⟩ := Out.bind_eq_ok b1
    obtain ⟨dc, t2, b1⟩ := Out.bind_eq_ok b1
    obtain ⟨k, t3, b1⟩ := Out.bind_eq_ok b1
    obtain ⟨Osw, Sw, hsub⟩ := S3.wipe own
    refine ⟨_, Hf3, Osw, items[i], env1, Sw, rx, t1, fun σ4 Os4 S4 hs4 hw4 => ⟨(hw4 own ht).trans (wipe_wipe σ own), ?_⟩⟩
    have hL4 : ∀ Hfx Hx, Stp W0 Hf2 H2 Hfx Hx → Hx L = some (.lst acc) ∧ Hfx L = none := fun Hfx Hx s => by
      refine ⟨s.same _ _ hH, ?_⟩
      cases ee : Hfx L with
      | none => rfl
      | some o =>
        rcases s.nw L hfL (by rw [ee]; exact fun z => nomatch z) with z | z
        · rw [hH] at z; cases z
        · exact z.elim
    refine ⟨env1, Hf3, Os4, dc, k, S4, t2, ofO_eq_ok t3, fun Hf5 H5 S5 st5 => ?_⟩
    cases k with
    | false =>
      cases b1
      rw [if_neg Bool.false_ne_true]
      have s5 := st3.trans st5
      obtain ⟨h1, h2⟩ := hL4 _ _ s5
      exact ⟨Hf5, acc, S3.step S5.sub st5, st2.trans s5, h1, h2, by rw [List.append_nil]; exact ra.sub (sameSub s5.fr), Nat.le_succ_of_le hacc⟩
    | true =>
      obtain ⟨d, t4, b1⟩ := Out.bind_eq_ok b1
      cases b1
      rw [if_pos rfl]
      refine ⟨env1, Hf5, Os4, d, S5, t4, fun v Hf6 H6 S6 st6 r6 => ?_⟩
      have s6 := (st3.trans st5).trans st6
      obtain ⟨h1, h2⟩ := hL4 _ _ s6
      have So := S3.step S6.sub (st5.trans st6)
      refine ⟨acc, h1, Nat.lt_of_le_of_lt hacc (Nat.lt_of_lt_of_le hlt hz), Hf6, acc ++ [v], ?_, ?_, upd_same, h2, (ra.sub (sameSub s6.fr)).append (.cons r6 .nil), by simp; omega⟩
      · refine So.mono (Same.refl _) (fun a o ea => ?_) (fun j b hb => upd_ne fun z => hLo j (by rw [← z]; exact hb)) So.new
        rw [upd_ne (fun z => by rw [z, h2] at ea; cases ea)]
        exact So.sub a o ea
      · have s := st2.trans s6
        refine ⟨s.fr, fun b o eb nb => ?_, s.nw, fun b nb => ?_⟩
        · rw [upd_ne (fun z => by rw [z, hL] at eb; cases eb)]
          exact s.kp b o eb nb
        · rw [upd_ne (fun z => nb (by rw [z]; exact hL))]
          exact s.st b nb
  · have ei : i = items.length := by omega
    subst ei
    rw [List.drop_length] at hr
    cases hr
    rw [List.append_nil] at ho
    subst ho
    exact .inl ⟨F.stop Hf2 H2 _ c2 S2.sub (Nat.le_refl _), q L acc Hf2 H2 S2 st2 hL hfL hH ra hLo⟩
end
end RE
end

section
set_option linter.all false
set_option maxRecDepth 100000
set_option maxHeartbeats 4000000
/-! RE16: list comprehensions as values; expressions that change a name's list. -/
namespace RE
open PySem PySem.Spec PyProof.Rows L2

section
variable {X : Cx} {fa : Nat → Option Addr} {e a b c : Expr} {es rest : List Expr} {pos : Pos}
/-! ### comprehensions -/
theorem pf_comp {elt tg iter : Expr} {ifs : List Expr} {scope : Scope} {own : List (Str × Nat)} {T : Tg} {sf : RE.Env → Out (List D)} {cf ef : RE.Env → Out D} (hc : X.calm = true) (hN : X.N.Nodup) (hi : PI X tg iter (tIL X fa sf)) (ok : BlkOk X.N X.env.scope scope own) (ht : ∀ i ∈ tgI T, i ∈ own.map (·.2))
    (hg : ∀ (s : Shared) (H : Hp) (C : Addr) (cl : List (Str × Addr)) (fp : List Addr), PG (X.blk s H scope (compEnvC scope cl C X.env) fp) tg (tG X fa T)) (hp : ∀ (s : Shared) (H : Hp) (C : Addr) (cl : List (Str × Addr)) (fp : List Addr), PTs (X.blk s H scope (compEnvC scope cl C X.env) fp) ifs (tT X fa cf))
    (he : ∀ (s : Shared) (H : Hp) (C : Addr) (cl : List (Str × Addr)) (fp : List Addr), PE (X.blk s H scope (compEnvC scope cl C X.env) fp) elt (tP X fa ef)) (hs : ∀ x, foldedSetIterable iter X.env x = pure x) :
    PE X (.ListComp elt [⟨tg, iter, ifs, 0⟩] scope pos) (tF X fa (fComp sf cf ef T (own.map (·.2)))) :=
  PE.imp (pe_lc hc hN hi ok hg hp he hs) fun σ H Q h => lc_imp ht h
theorem pts_none : PTs X [] (tT X fa fun _ => .ok (.bl true)) := ⟨fun pins s σ H Q I ⟨env, Hf, Os, d, b, S, e, e2, q⟩ => by
  cases e
  cases e2
  exact pts_nil.run pins s σ H Q I (q Hf H S (Stp.refl _ _ _))⟩

/-! ### expressions that change -/
def Wn (Os : Nat → List Addr) : Addr → Prop := fun b => ∃ i, b ∈ Os i
def AftM (R : Rc) (env : RE.Env) (σ : L2.St) (Hf H : Hp) (Os : Nat → List Addr) (d : D) (Q : VK) : Prop := ∀ v Hf' H', Sim R env σ Hf' H' Os → Stp (Wn Os) Hf H Hf' H' → Rp R Hf' v d → Q v H'
def AftMA (R : Rc) (env : RE.Env) (σ : L2.St) (Hf H : Hp) (Os : Nat → List Addr) (ds : List D) (Q : List V → Hp → Prop) : Prop := ∀ vs Hf' H', Sim R env σ Hf' H' Os → Stp (Wn Os) Hf H Hf' H' → RpA R Hf' vs ds → Q vs H'
section
variable {R : Rc} {env : RE.Env} {σ : L2.St} {Hf H Hf1 H1 : Hp} {Os : Nat → List Addr} {d : D} {Q : VK}
theorem Stp.w0 {W : Addr → Prop} {Hf H Hf1 H1 : Hp} (a : Stp W0 Hf H Hf1 H1) : Stp W Hf H Hf1 H1 := a.weak fun _ z => z.elim
theorem AftM.move (h : AftM R env σ Hf H Os d Q) (st : Stp (Wn Os) Hf H Hf1 H1) : AftM R env σ Hf1 H1 Os d Q := fun v Hf' H' S s r => h v Hf' H' S (st.trans s) r
theorem AftM.aft (h : AftM R env σ Hf H Os d Q) : Aft R env σ Hf H Os d Q := fun v Hf' H' S s r => h v Hf' H' S s.w0 r
end
def tM (X : Cx) (fa : Nat → Option Addr) (f : RE.Env → Out (D × RE.Env)) : TE := fun σ H Q => ∃ env Hf Os d env1, Sim (rc X fa) env σ Hf H Os ∧ f env = .ok (d, env1) ∧ AftM (rc X fa) env1 σ Hf H Os d Q
def tMs (X : Cx) (fa : Nat → Option Addr) (f : RE.Env → Out (List D × RE.Env)) : TA := fun σ H Q => ∃ env Hf Os d env1, Sim (rc X fa) env σ Hf H Os ∧ f env = .ok (d, env1) ∧ AftMA (rc X fa) env1 σ Hf H Os d Q
def tMT (X : Cx) (fa : Nat → Option Addr) (f : RE.Env → Out (D × RE.Env)) : TT := fun σ H Q => ∃ env Hf Os d b env1, Sim (rc X fa) env σ Hf H Os ∧ f env = .ok (d, env1) ∧ truth d = some b ∧ ∀ Hf' H', Sim (rc X fa) env1 σ Hf' H' Os → Stp (Wn Os) Hf H Hf' H' → Q b H'
abbrev mPur (f : RE.Env → Out D) : RE.Env → Out (D × RE.Env) := fun env => (f env).bind fun d => .ok (d, env)
abbrev mBin (f g : RE.Env → Out (D × RE.Env)) (go : D → D → Out D) : RE.Env → Out (D × RE.Env) := fun env => (f env).bind fun x => (g x.2).bind fun y => (go x.1 y.1).bind fun d => .ok (d, y.2)
abbrev mUn (f : RE.Env → Out (D × RE.Env)) (go : D → Out D) : RE.Env → Out (D × RE.Env) := fun env => (f env).bind fun x => (go x.1).bind fun d => .ok (d, x.2)
abbrev mCons (f : RE.Env → Out (D × RE.Env)) (g : RE.Env → Out (List D × RE.Env)) : RE.Env → Out (List D × RE.Env) := fun env => (f env).bind fun x => (g x.2).bind fun y => .ok (x.1 :: y.1, y.2)
abbrev mNot (f : RE.Env → Out (D × RE.Env)) : RE.Env → Out (D × RE.Env) := fun env => (f env).bind fun x => (ofO (truth x.1)).bind fun t => .ok (.bl (!t), x.2)
abbrev mAnd (f g : RE.Env → Out (D × RE.Env)) : RE.Env → Out (D × RE.Env) := fun env => (f env).bind fun x => (ofO (truth x.1)).bind fun t => match t with
  | true => g x.2
  | false => .ok (x.1, x.2)
abbrev mOr (f g : RE.Env → Out (D × RE.Env)) : RE.Env → Out (D × RE.Env) := fun env => (f env).bind fun x => (ofO (truth x.1)).bind fun t => match t with
  | true => .ok (x.1, x.2)
  | false => g x.2
abbrev mIte (f : RE.Env → Out D) (g h : RE.Env → Out (D × RE.Env)) : RE.Env → Out (D × RE.Env) := fun env => (f env).bind fun x => (ofO (truth x)).bind fun t => match t with
  | true => g env
  | false => h env
variable {f g h : RE.Env → Out (D × RE.Env)} {fs : RE.Env → Out (List D × RE.Env)}
theorem pm_pur {f : RE.Env → Out D} (p : PE X e (tP X fa f)) : PE X e (tM X fa (mPur f)) := PE.imp p fun σ H Q ⟨env, Hf, Os, d, env1, S, e, q⟩ => by
  obtain ⟨d1, e1, e⟩ := Out.bind_eq_ok e
  cases e
  exact ⟨env, Hf, Os, _, S, e1, q.aft⟩
theorem mt_pur {f : RE.Env → Out D} (p : PT X e (tT X fa f)) : PT X e (tMT X fa (mPur f)) := PT.imp p fun σ H Q ⟨env, Hf, Os, d, b, env1, S, e, e2, q⟩ => by
  obtain ⟨d1, e1, e⟩ := Out.bind_eq_ok e
  cases e
  exact ⟨env, Hf, Os, _, b, S, e1, e2, fun Hf' H' S' s => q Hf' H' S' s.w0⟩
theorem pms_nil : PA X [] (tMs X fa fun env => .ok ([], env)) := PA.imp pa_nil fun σ H Q ⟨env, Hf, Os, d, env1, S, e, q⟩ => by
  cases e
  exact q [] Hf H S (Stp.refl _ _ _) .nil
theorem pms_cons (p : PE X e (tM X fa f)) (ps : PA X es (tMs X fa fs)) (hs : starEach (e :: es) X.env = (false, eval e X.env) :: starEach es X.env) : PA X (e :: es) (tMs X fa (mCons f fs)) := PA.imp (pa_cons p ps hs) fun σ H Q ⟨env, Hf, Os, d, env1, S, e, q⟩ => by
  obtain ⟨⟨d1, n1⟩, e1, e⟩ := Out.bind_eq_ok e
  obtain ⟨⟨ds, n2⟩, e2, e⟩ := Out.bind_eq_ok e
  cases e
  refine ⟨env, Hf, Os, d1, n1, S, e1, fun v Hf1 H1 S1 st1 r1 => ⟨n1, Hf1, Os, ds, n2, S1, e2, fun vs Hf2 H2 S2 st2 r2 => ?_⟩⟩
  exact q _ Hf2 H2 S2 (st1.trans st2) (.cons (r1.sub (sameSub st2.fr)) r2)
theorem pm_tup {k : Nat} (ps : PA X es (tMs X fa fs)) (hl : ∀ env ds env1, fs env = .ok (ds, env1) → ds.length ≤ 1000) : PE X (.Tuple es k pos) (tM X fa fun env => (fs env).bind fun x => .ok (.tup x.1, x.2)) :=
  PE.imp (pe_tup ps) fun σ H Q ⟨env, Hf, Os, d, env1, S, e, q⟩ => by
    obtain ⟨⟨ds, n1⟩, e1, e⟩ := Out.bind_eq_ok e
    cases e
    refine ⟨env, Hf, Os, ds, n1, S, e1, fun vs Hf1 H1 S1 st1 r1 => ⟨?_, fun p n => ?_⟩⟩
    · rw [r1.length]
      exact Nat.le_of_lt (small1000 (hl _ _ _ e1))
    · exact (q.move st1).aft.newTup S1 r1 n
theorem pm_lst (ps : PA X es (tMs X fa fs)) (hl : ∀ env ds env1, fs env = .ok (ds, env1) → ds.length ≤ 1000) : PE X (.List es pos) (tM X fa fun env => (fs env).bind fun x => .ok (.lst x.1, x.2)) :=
  PE.imp (pe_lst ps) fun σ H Q ⟨env, Hf, Os, d, env1, S, e, q⟩ => by
    obtain ⟨⟨ds, n1⟩, e1, e⟩ := Out.bind_eq_ok e
    cases e
    refine ⟨env, Hf, Os, ds, n1, S, e1, fun vs Hf1 H1 S1 st1 r1 => ⟨?_, fun p n => ?_⟩⟩
    · rw [r1.length]
      exact Nat.le_of_lt (small1000 (hl _ _ _ e1))
    · exact (q.move st1).aft.newLst S1 r1 n
theorem mbin_imp {go : D → D → Out D} {σ : L2.St} {H : Hp} {Q : VK} (h : tM X fa (mBin f g go) σ H Q) : tOp (r2 X fa go) (tM X fa f) (tM X fa g) σ H Q := by
  obtain ⟨env, Hf, Os, d, env1, S, e, q⟩ := h
  obtain ⟨⟨d1, n1⟩, e1, e⟩ := Out.bind_eq_ok e
  obtain ⟨⟨d2, n2⟩, e2, e⟩ := Out.bind_eq_ok e
  obtain ⟨d3, e3, e⟩ := Out.bind_eq_ok e
  cases e
  refine ⟨env, Hf, Os, d1, n1, S, e1, fun v Hf1 H1 S1 st1 r1 => ⟨n1, Hf1, Os, d2, n2, S1, e2, fun u Hf2 H2 S2 st2 r2 => ?_⟩⟩
  exact ⟨n2, σ, Hf2, Os, d1, d2, d, S2, .rp (r1.sub (sameSub st2.fr)), .rp r2, e3, (q.move (st1.trans st2)).aft⟩
theorem pm_bin {o : Operator} {go : D → D → Out D} (ho : OpR X (binaryOp o) (r2 X fa go)) (p : PE X a (tM X fa f)) (p' : PE X b (tM X fa g)) : PE X (.BinOp a o b pos) (tM X fa (mBin f g go)) :=
  PE.imp (pe_op ho p p') fun _ _ _ h => mbin_imp h
theorem pm_cmp {o : CmpOp} {go : D → D → Out D} (ho : OpR X (compareOp o) (r2 X fa go)) (p : PE X a (tM X fa f)) (p' : PE X b (tM X fa g)) (hm : behindInMarks o b = false) : PE X (.Compare a [o] [b] pos) (tM X fa (mBin f g go)) :=
  PE.imp (pe_cmpR ho p p' hm) fun _ _ _ h => mbin_imp h
theorem pm_ix (hr : IxR X (r2 X fa opIdx)) (p : PE X a (tM X fa f)) (p' : PE X b (tM X fa g)) (hs : PlainIx b) : PE X (.Subscript a b pos) (tM X fa (mBin f g opIdx)) :=
  PE.imp (pe_ix hr p p' hs) fun _ _ _ h => mbin_imp h
theorem pm_un {o : UnaryOp} {go : D → Out D} (ho : UnR X (unaryOp o) (r1 X fa go)) (p : PE X a (tM X fa f)) : PE X (.UnaryOp o a pos) (tM X fa (mUn f go)) :=
  PE.imp (pe_un ho p) fun σ H Q ⟨env, Hf, Os, d, env1, S, e, q⟩ => by
    obtain ⟨⟨d1, n1⟩, e1, e⟩ := Out.bind_eq_ok e
    obtain ⟨d2, e2, e⟩ := Out.bind_eq_ok e
    cases e
    exact ⟨env, Hf, Os, d1, n1, S, e1, fun v Hf1 H1 S1 st1 r1 => ⟨n1, σ, Hf1, Os, d1, d, S1, .rp r1, e2, (q.move st1).aft⟩⟩
theorem pm_not (p : PE X a (tM X fa f)) : PE X (.UnaryOp .Not a pos) (tM X fa (mNot f)) := PE.imp (pe_notT p) fun σ H Q ⟨env, Hf, Os, d, env1, S, e, q⟩ => by
  obtain ⟨⟨d1, n1⟩, e1, e⟩ := Out.bind_eq_ok e
  obtain ⟨k, e2, e⟩ := Out.bind_eq_ok e
  cases e
  exact ⟨env, Hf, Os, d1, n1, S, e1, fun v Hf1 H1 S1 st1 r1 => ⟨k, truV_of S1 (.rp r1) (ofO_eq_ok e2), (q.move st1).aft.flat S1 (.bl _)⟩⟩
theorem pm_and (p : PE X a (tM X fa f)) (p' : PE X (.BoolOp .And (b :: rest) pos) (tM X fa g)) : PE X (.BoolOp .And (a :: b :: rest) pos) (tM X fa (mAnd f g)) := PE.imp (pe_andT p p') fun σ H Q ⟨env, Hf, Os, d, env1, S, e, q⟩ => by
  obtain ⟨⟨d1, n1⟩, e1, e⟩ := Out.bind_eq_ok e
  obtain ⟨k, e2, e⟩ := Out.bind_eq_ok e
  refine ⟨env, Hf, Os, d1, n1, S, e1, fun v Hf1 H1 S1 st1 r1 => ⟨k, truV_of S1 (.rp r1) (ofO_eq_ok e2), ?_⟩⟩
  cases k with
  | true => exact ⟨n1, Hf1, Os, d, env1, S1, e, q.move st1⟩
  | false => cases e; exact (q.move st1).aft.flat S1 r1
theorem pm_or (p : PE X a (tM X fa f)) (p' : PE X (.BoolOp .Or (b :: rest) pos) (tM X fa g)) : PE X (.BoolOp .Or (a :: b :: rest) pos) (tM X fa (mOr f g)) := PE.imp (pe_orT p p') fun σ H Q ⟨env, Hf, Os, d, env1, S, e, q⟩ => by
  obtain ⟨⟨d1, n1⟩, e1, e⟩ := Out.bind_eq_ok e
  obtain ⟨k, e2, e⟩ := Out.bind_eq_ok e
  refine ⟨env, Hf, Os, d1, n1, S, e1, fun v Hf1 H1 S1 st1 r1 => ⟨k, truV_of S1 (.rp r1) (ofO_eq_ok e2), ?_⟩⟩
  cases k with
  | true => cases e; exact (q.move st1).aft.flat S1 r1
  | false => exact ⟨n1, Hf1, Os, d, env1, S1, e, q.move st1⟩
theorem pm_ite {f : RE.Env → Out D} (p : PT X c (tT X fa f)) (p' : PE X a (tM X fa g)) (p'' : PE X b (tM X fa h)) : PE X (.IfExp c a b pos) (tM X fa (mIte f g h)) := PE.imp (pe_ifExp p p' p'') fun σ H Q ⟨env, Hf, Os, d, env1, S, e, q⟩ => by
  obtain ⟨d1, e1, e⟩ := Out.bind_eq_ok e
  obtain ⟨k, e2, e⟩ := Out.bind_eq_ok e
  refine ⟨env, Hf, Os, d1, k, S, e1, ofO_eq_ok e2, fun Hf1 H1 S1 st1 => ?_⟩
  cases k with
  | true => exact ⟨env, Hf1, Os, d, env1, S1, e, q.move st1.w0⟩
  | false => exact ⟨env, Hf1, Os, d, env1, S1, e, q.move st1.w0⟩
/-! tests -/
theorem mt_gen (p : PE X e (tM X fa f)) (he : ∀ whole, isTrue e X.env whole = (do let v ← whole; standAt e.pos; holding [v] (truthy v))) : PT X e (tMT X fa f) := by
  refine ⟨fun pins s σ H Q I hw => ?_⟩
  obtain ⟨env, Hf, Os, d, b, env1, S, e1, e2, q⟩ := hw
  refine isTrue_plain (thn (p.run pins s σ H _ I ⟨env, Hf, Os, d, env1, S, e1, fun v Hf1 H1 S1 st1 r1 => (⟨env1, Hf1, Os, d, b, S1, .rp r1, e2, q Hf1 H1 S1 st1⟩ : ∃ env Hf Os d b, Sim (rc X fa) env σ Hf H1 Os ∧ Ld (rc X fa) Hf H1 v d ∧ truth d = some b ∧ Q b H1)⟩) fun v s1 ⟨x, H1, I1, r1, q1⟩ => ?_) (he _)
  obtain ⟨env, Hf, Os, d, b, S, l, e2, q⟩ := q1
  exact tru_all pins s1 σ H1 x v Q I1 r1 ⟨env, σ, Hf, Os, d, b, S, l, e2, q⟩
theorem mt_not (p : PT X a (tMT X fa f)) : PT X (.UnaryOp .Not a pos) (tMT X fa (mNot f)) := PT.imp (pt_not p) fun σ H Q ⟨env, Hf, Os, d, k, env1, S, e, e9, q⟩ => by
  obtain ⟨⟨d1, n1⟩, e1, e⟩ := Out.bind_eq_ok e
  obtain ⟨j, e2, e⟩ := Out.bind_eq_ok e
  cases e
  cases e9
  exact ⟨env, Hf, Os, d1, j, n1, S, e1, ofO_eq_ok e2, q⟩
theorem mtw_and1 (p : PT X a (tMT X fa f)) : PW X (.BoolOp .And [a] pos) (tMT X fa f) := pw_and1 p
theorem mtw_or1 (p : PT X a (tMT X fa f)) : PW X (.BoolOp .Or [a] pos) (tMT X fa f) := pw_or1 p
theorem mtw_and (p : PT X a (tMT X fa f)) (p' : PW X (.BoolOp .And (b :: rest) pos) (tMT X fa g)) : PW X (.BoolOp .And (a :: b :: rest) pos) (tMT X fa (mAnd f g)) := PW.imp (pw_and p p') fun σ H Q ⟨env, Hf, Os, d, k, env1, S, e, e9, q⟩ => by
  obtain ⟨⟨d1, n1⟩, e1, e⟩ := Out.bind_eq_ok e
  obtain ⟨j, e2, e⟩ := Out.bind_eq_ok e
  refine ⟨env, Hf, Os, d1, j, n1, S, e1, ofO_eq_ok e2, fun Hf1 H1 S1 st1 => ?_⟩
  cases j with
  | true => exact ⟨n1, Hf1, Os, d, k, env1, S1, e, e9, fun Hf2 H2 S2 st2 => q Hf2 H2 S2 (st1.trans st2)⟩
  | false =>
    cases e
    rw [ofO_eq_ok e2] at e9
    cases e9
    exact q Hf1 H1 S1 st1
theorem mtw_or (p : PT X a (tMT X fa f)) (p' : PW X (.BoolOp .Or (b :: rest) pos) (tMT X fa g)) : PW X (.BoolOp .Or (a :: b :: rest) pos) (tMT X fa (mOr f g)) := PW.imp (pw_or p p') fun σ H Q ⟨env, Hf, Os, d, k, env1, S, e, e9, q⟩ => by
  obtain ⟨⟨d1, n1⟩, e1, e⟩ := Out.bind_eq_ok e
  obtain ⟨j, e2, e⟩ := Out.bind_eq_ok e
  refine ⟨env, Hf, Os, d1, j, n1, S, e1, ofO_eq_ok e2, fun Hf1 H1 S1 st1 => ?_⟩
  cases j with
  | true =>
    cases e
    rw [ofO_eq_ok e2] at e9
    cases e9
    exact q Hf1 H1 S1 st1
  | false => exact ⟨n1, Hf1, Os, d, k, env1, S1, e, e9, fun Hf2 H2 S2 st2 => q Hf2 H2 S2 (st1.trans st2)⟩
theorem mt_bin {o : CmpOp} {go : D → D → Out D} (ho : OpR X (compareOp o) (r2 X fa go)) (p : PE X a (tM X fa f)) (p' : PE X b (tM X fa g)) (hm : behindInMarks o b = false) (hb : ∀ x y d, go x y = .ok d → ∃ k, d = .bl k) : PT X (.Compare a [o] [b] pos) (tMT X fa (mBin f g go)) := by
  refine PT.imp (pt_cmpR ho p p' hm) ?_
  rintro σ H Q ⟨env, Hf, Os, d, k, env1, S, e, e9, q⟩
  have e0 := e
  obtain ⟨⟨d1, n1⟩, e1, e⟩ := Out.bind_eq_ok e
  obtain ⟨⟨d2, n2⟩, e2, e⟩ := Out.bind_eq_ok e
  obtain ⟨d3, e3, e⟩ := Out.bind_eq_ok e
  cases e
  obtain ⟨j, rfl⟩ := hb _ _ _ e3
  have e9 : j = k := Option.some.inj e9
  subst e9
  refine mbin_imp ⟨env, Hf, Os, .bl j, _, S, e0, fun v Hf1 H1 S1 st1 r1 => ?_⟩
  cases r1
  exact ⟨j, rfl, q Hf1 H1 S1 st1⟩
/-! calls -/
variable {x : Str} {p0 : Pos} {cl : Cl} {n np : Nat}
theorem pm_callB1 {id : String} {go : D → Out D} (hc : CallR X (.builtin id) (rC1 X fa go)) (hg : Gl X x) (hm : X.mg x = none) (hv : bootBuiltins x = some (.builtin id)) (p : PE X e (tM X fa f)) (hn : x ≠ "__name__") (hdb : (x == ("__debug__" : Str)) = false)
    (hs : starEach [e] X.env = (false, eval e X.env) :: starEach [] X.env) : PE X (.Call (.Name x p0) [e] [] pos) (tM X fa (mUn f go)) :=
  PE.imp (pe_callB hc hg hm hv (pa_cons p pa_nil hs) hn hdb hs rfl) fun σ H Q h => by
    obtain ⟨env, Hf, Os, d, env1, S, e, q⟩ := h
    obtain ⟨⟨d1, n1⟩, e1, e⟩ := Out.bind_eq_ok e
    obtain ⟨d2, e2, e⟩ := Out.bind_eq_ok e
    cases e
    exact ⟨env, Hf, Os, d1, n1, S, e1, fun v Hf1 H1 S1 st1 r1 => ⟨v, rfl, n1, σ, Hf1, Os, d1, d, S1, .rp r1, e2, (q.move st1).aft⟩⟩
theorem pm_callT1 {T : String} {go : D → Out D} (hc : CallR X (.type T) (rC1 X fa go)) (hg : Gl X x) (hm : X.mg x = none) (hv : bootBuiltins x = some (.type T)) (p : PE X e (tM X fa f)) (hn : x ≠ "__name__") (hdb : (x == ("__debug__" : Str)) = false)
    (hs : starEach [e] X.env = (false, eval e X.env) :: starEach [] X.env) : PE X (.Call (.Name x p0) [e] [] pos) (tM X fa (mUn f go)) :=
  PE.imp (pe_callTy hc hg hm hv (pa_cons p pa_nil hs) hn hdb hs rfl) fun σ H Q h => by
    obtain ⟨env, Hf, Os, d, env1, S, e, q⟩ := h
    obtain ⟨⟨d1, n1⟩, e1, e⟩ := Out.bind_eq_ok e
    obtain ⟨d2, e2, e⟩ := Out.bind_eq_ok e
    cases e
    exact ⟨env, Hf, Os, d1, n1, S, e1, fun v Hf1 H1 S1 st1 r1 => ⟨v, rfl, n1, σ, Hf1, Os, d1, d, S1, .rp r1, e2, (q.move st1).aft⟩⟩
theorem pm_callB2 {id : String} {go : D → D → Out D} (hc : CallR X (.builtin id) (rC2 X fa go)) (hg : Gl X x) (hm : X.mg x = none) (hv : bootBuiltins x = some (.builtin id)) (p : PE X e (tM X fa f)) (p' : PE X a (tM X fa g)) (hn : x ≠ "__name__") (hdb : (x == ("__debug__" : Str)) = false)
    (hs : starEach [e, a] X.env = (false, eval e X.env) :: starEach [a] X.env) (hs' : starEach [a] X.env = (false, eval a X.env) :: starEach [] X.env) : PE X (.Call (.Name x p0) [e, a] [] pos) (tM X fa (mBin f g go)) :=
  PE.imp (pe_callB hc hg hm hv (pa_cons p (pa_cons p' pa_nil hs') hs) hn hdb hs (by rw [hs']; rfl)) fun σ H Q h => by
    obtain ⟨env, Hf, Os, d, env1, S, e, q⟩ := h
    obtain ⟨⟨d1, n1⟩, e1, e⟩ := Out.bind_eq_ok e
    obtain ⟨⟨d2, n2⟩, e2, e⟩ := Out.bind_eq_ok e
    obtain ⟨d3, e3, e⟩ := Out.bind_eq_ok e
    cases e
    exact ⟨env, Hf, Os, d1, n1, S, e1, fun v Hf1 H1 S1 st1 r1 => ⟨n1, Hf1, Os, d2, n2, S1, e2, fun u Hf2 H2 S2 st2 r2 => ⟨v, u, rfl, n2, σ, Hf2, Os, d1, d2, d, S2, .rp (r1.sub (sameSub st2.fr)), .rp r2, e3, (q.move (st1.trans st2)).aft⟩⟩⟩
theorem pm_call (C : CallOk X x np (spP (rc X fa) cl n np)) (hg : Gl X x) (hp : PA X (e :: es) (tMs X fa fs)) (hl : ∀ env ds env1, fs env = .ok (ds, env1) → ds.length = np) (hdb : (x == ("__debug__" : Str)) = false)
    (he : starEach (e :: es) X.env = (false, eval e X.env) :: starEach es X.env) (hpl : (backTo pos (starEach es X.env)).any (·.1) = false) : PE X (.Call (.Name x p0) (e :: es) [] pos) (tM X fa fun env => (fs env).bind fun x => (cl.f n x.1).bind fun d => .ok (d, x.2)) := by
  obtain ⟨f, fd, ps, k, F, hr, hm, hk, hb⟩ := C
  refine PE.imp (pe_call F hr hg hm hk hb (.nil) pass0 hp hdb he hpl) fun σ H Q ⟨env, Hf, Os, d, env1, S, e1, q⟩ => ?_
  obtain ⟨⟨ds, n1⟩, e5, e4⟩ := Out.bind_eq_ok e1
  clear e1
  obtain ⟨d2, e3, e2⟩ := Out.bind_eq_ok e4
  clear e4
  cases e2
  refine ⟨env, Hf, Os, ds, _, S, e5, fun vs Hf1 H1 S1 st1 r1 => ?_⟩
  dsimp only
  rw [List.append_nil]
  exact ⟨by rw [r1.length, hl _ _ _ e5], Hf1, ds, _, S1.sub, r1, e3, fun v Hf' H' sub st r => q v Hf' H' (S1.step sub st) (st1.trans st.w0) r⟩
end
section
variable {R : Rc} {env : RE.Env} {σ : L2.St} {Hf H Hf' H' : Hp} {Os : Nat → List Addr}
/-- one name's own objects change -/
theorem Sim.change (S : Sim R env σ Hf H Os) {x : Nat} {s : Slot} {O : List Addr} (hO : Os x = O) (st : Stp (fun b => b ∈ O) Hf H Hf' H') (sub : Sub Hf' H') (hn : ∀ b ∈ O, Hf' b = none) (hs : ∀ sv, σ[x]? = some sv → SlotOk R Hf' H' O s sv) : Sim R (env.set x s) σ Hf' H' Os := by
  refine ⟨by rw [List.length_set]; exact S.len, sub, fun j t e => ?_, fun j hj => S.out j (by rwa [List.length_set] at hj), S.dis, S.nod, fun j a ha => ?_⟩
  · by_cases hj : j = x
    · subst hj
      have hl : j < env.length := by have := (List.getElem?_eq_some_iff.mp e).1; rwa [List.length_set] at this
      rw [List.getElem?_set_self hl] at e
      cases e
      have hσ : σ[j]? = some (σ[j]'(by rw [← S.len]; exact hl)) := List.getElem?_eq_getElem _
      exact ⟨_, hσ, by rw [hO]; exact hs _ hσ⟩
    · rw [List.getElem?_set_ne (fun z => hj z.symm)] at e
      obtain ⟨sv', e1, h1⟩ := S.slot j t e
      refine ⟨sv', e1, h1.mono st.fr fun b hb => ?_⟩
      have h := S.there hb
      cases e2 : H b with
      | none => exact absurd e2 h
      | some o => exact st.kp b o e2 fun z => hj (S.dis j x b hb (by rw [hO]; exact z))
  · by_cases hx : a ∈ O
    · exact hn a hx
    · cases e : Hf' a with
      | none => rfl
      | some o =>
        rcases st.nw a (S.new j a ha) (by rw [e]; exact fun z => nomatch z) with z | z
        · exact absurd z (S.there ha)
        · exact absurd z hx
theorem getS_some {i : Nat} (h : getS env i ≠ .no) : env[i]? = some (getS env i) := by
  by_cases hi : i < env.length
  · unfold getS
    rw [List.getD_eq_getElem?_getD, List.getElem?_eq_getElem hi]
    rfl
  · exact absurd (by unfold getS; rw [List.getD_eq_getElem?_getD, List.getElem?_eq_none (by omega)]; rfl) h
/-- a name's own list -/
theorem Sim.ownL (S : Sim R env σ Hf H Os) {x : Nat} {xs : List D} (e : getS env x = .own (.lst xs)) : ∃ a vs, σ[x]? = some (some (.ref a)) ∧ Os x = [a] ∧ H a = some (.lst vs) ∧ RpA R Hf vs xs ∧ Hf a = none := by
  obtain ⟨sv, e1, h⟩ := slot_get S x (by rw [e]; exact fun z => nomatch z)
  rw [e] at h
  obtain ⟨a, rfl, hO, vs, h1, h2⟩ := h
  exact ⟨a, vs, e1, hO, h1, h2, S.new x a (by rw [hO]; exact List.mem_cons_self)⟩
theorem Sim.ownR (S : Sim R env σ Hf H Os) {x : Nat} (e : isOwn (getS env x) = true) : ∃ a, σ[x]? = some (some (.ref a)) := by
  cases q : getS env x with
  | own o =>
    obtain ⟨sv, e1, h⟩ := slot_get S x (by rw [q]; exact fun z => nomatch z)
    rw [q] at h
    obtain ⟨a, rfl, _⟩ := h
    exact ⟨a, e1⟩
  | _ => rw [q] at e; cases e
end
section
variable {X : Cx} {fa : Nat → Option Addr} {e a b c : Expr} {es rest : List Expr} {pos : Pos} {f g h : RE.Env → Out (D × RE.Env)} {fs : RE.Env → Out (List D × RE.Env)} {x : Str} {p0 : Pos} {cl : Cl} {n np : Nat}
theorem pm_io {i : Nat} (C : CallOk X x np (spI (rc X fa) cl n np)) (hg : Gl X x) (hv : PE X e (tVar i)) (hp : PA X es (tMs X fa fs)) (hl : ∀ env ds env1, fs env = .ok (ds, env1) → ds.length + 1 = np) (hdb : (x == ("__debug__" : Str)) = false)
    (he : starEach (e :: es) X.env = (false, eval e X.env) :: starEach es X.env) (hpl : (backTo pos (starEach es X.env)).any (·.1) = false) : PE X (.Call (.Name x p0) (e :: es) [] pos) (tM X fa fun env => chk (isOwn (getS env i)) ((fs env).bind fun (ds, env1) => match getS env1 i with
    | .own (.lst xs) => (cl.io n xs ds).bind fun (d, xs') => .ok (d, env1.set i (.own (.lst xs')))
    | _ => .bad)) := by
  obtain ⟨f, fd, ps, k, F, hr, hm, hk, hb⟩ := C
  refine PE.imp (pe_call F hr hg hm hk hb (.nil) pass0 (pa_cons hv hp he) hdb he hpl) fun σ H Q ⟨env, Hf, Os, d, env1, S, e1, q⟩ => ?_
  obtain ⟨h0, e4⟩ := chk_eq_ok e1
  clear e1
  obtain ⟨⟨ds, n1⟩, e5, e2⟩ := Out.bind_eq_ok e4
  clear e4
  dsimp only at e2
  split at e2 <;> try (cases e2; done)
  rename_i xs hx
  obtain ⟨⟨d', xs'⟩, e3, e2⟩ := Out.bind_eq_ok e2
  cases e2
  obtain ⟨a, ha⟩ := S.ownR h0
  refine ⟨.ref a, ha, env, Hf, Os, ds, n1, S, e5, fun vs Hf1 H1 S1 st1 r1 => ?_⟩
  dsimp only
  rw [List.append_nil]
  obtain ⟨a', ws, ha', hO, hH, rw, hn⟩ := S1.ownL hx
  rw [ha] at ha'
  cases ha'
  refine ⟨by rw [List.length_cons, r1.length, hl _ _ _ e5], Hf1, a, vs, ws, xs, ds, d', xs', rfl, S1.sub, hH, hn, rw, r1, e3, fun v Hf' H' ws' sub st hn' hH' rw' r => ?_⟩
  refine q v Hf' H' (S1.change hO (st.weak fun b hb => by rw [hb]; exact List.mem_cons_self) sub (fun b hb => by rw [List.mem_singleton.mp hb]; exact hn') fun sv hsv => ?_) (st1.trans (st.weak fun b hb => ⟨i, by rw [hO, hb]; exact List.mem_cons_self⟩)) r
  rw [ha] at hsv
  cases hsv
  exact ⟨a, rfl, rfl, ws', hH', rw'⟩
end
end RE
end

section
set_option linter.all false
set_option maxRecDepth 100000
set_option maxHeartbeats 4000000
/-! RE17: statements. -/
namespace RE
open PySem PySem.Spec PyProof.Rows L2

/-- a statement's step: what is frozen stays, the names' own objects may change, new ones may come; the names of pr keep theirs -/
structure StpS (pr : Nat → Bool) (Os Os' : Nat → List Addr) (σ σ' : L2.St) (Hf H Hf' H' : Hp) : Prop where
  st : Stp (Wn Os) Hf H Hf' H'
  os : ∀ i b, b ∈ Os' i → Wn Os b ∨ H b = none
  pr : ∀ i, pr i = true → σ'[i]? = σ[i]?
section
variable {pr : Nat → Bool} {Os Os1 Os2 : Nat → List Addr} {σ σ1 σ2 : L2.St} {Hf H Hf1 H1 Hf2 H2 : Hp}
theorem StpS.refl : StpS pr Os Os σ σ Hf H Hf H := ⟨Stp.refl _ _ _, fun i b h => .inl ⟨i, h⟩, fun _ _ => rfl⟩
theorem StpS.of (s : Stp (Wn Os) Hf H Hf1 H1) : StpS pr Os Os σ σ Hf H Hf1 H1 := ⟨s, fun i b h => .inl ⟨i, h⟩, fun _ _ => rfl⟩
theorem StpS.trans (a : StpS pr Os Os1 σ σ1 Hf H Hf1 H1) (b : StpS pr Os1 Os2 σ1 σ2 Hf1 H1 Hf2 H2) : StpS pr Os Os2 σ σ2 Hf H Hf2 H2 := by
  have w : ∀ x, Wn Os1 x → Wn Os x ∨ H x = none := fun x ⟨i, h⟩ => a.os i x h
  have nn : ∀ x, H1 x = none → H x = none := fun x h => by
    cases e : H x with
    | none => rfl
    | some o => exact absurd h (a.st.st x (by rw [e]; exact fun z => nomatch z))
  refine ⟨⟨a.st.fr.trans b.st.fr, fun x o e n => ?_, fun x n z => ?_, fun x z => b.st.st x (a.st.st x z)⟩, fun i x h => ?_, fun i h => (b.pr i h).trans (a.pr i h)⟩
  · refine b.st.kp x o (a.st.kp x o e n) fun z => ?_
    rcases w x z with q | q
    · exact n q
    · rw [q] at e; cases e
  · by_cases h1 : Hf1 x = none
    · rcases b.st.nw x h1 z with q | q
      · exact .inl (nn x q)
      · exact (w x q).symm
    · exact a.st.nw x n h1
  · rcases b.os i x h with q | q
    · exact w x q
    · exact .inr (nn x q)
theorem StpS.sub (h : ∀ i b, b ∈ Os1 i → b ∈ Os i) (hp : ∀ i, pr i = true → σ1[i]? = σ[i]?) : StpS pr Os Os1 σ σ1 Hf H Hf H := ⟨Stp.refl _ _ _, fun i b hb => .inl ⟨i, h i b hb⟩, hp⟩
end
def EndS (R : Rc) (D : Ends) (fl : Fl) (Hf : Hp) (σ : L2.St) (H : Hp) : Prop := match fl with
  | .nx => D.nx σ H
  | .bk => D.bk σ H
  | .ct => D.ct σ H
  | .rt d => ∀ v, Rp R Hf v d → D.rt v H
def tS (X : Cx) (fa : Nat → Option Addr) (pr : Nat → Bool) (f : RE.Env → Out (Fl × RE.Env)) : TS := fun D σ H => ∃ env Hf Os fl env1, Sim (rc X fa) env σ Hf H Os ∧ f env = .ok (fl, env1) ∧
  ∀ Hf' H' σ' Os', Sim (rc X fa) env1 σ' Hf' H' Os' → StpS pr Os Os' σ σ' Hf H Hf' H' → EndS (rc X fa) D fl Hf' σ' H'
abbrev sRet (f : RE.Env → Out (D × RE.Env)) : RE.Env → Out (Fl × RE.Env) := fun env => (f env).bind fun x => .ok (.rt x.1, x.2)
abbrev sExpr (f : RE.Env → Out (D × RE.Env)) : RE.Env → Out (Fl × RE.Env) := fun env => (f env).bind fun x => .ok (.nx, x.2)
abbrev sIf (c : RE.Env → Out (D × RE.Env)) (f g : RE.Env → Out (Fl × RE.Env)) : RE.Env → Out (Fl × RE.Env) := fun env => (c env).bind fun x => (ofO (truth x.1)).bind fun t => match t with
  | true => f x.2
  | false => g x.2
abbrev sSeq (f g : RE.Env → Out (Fl × RE.Env)) : RE.Env → Out (Fl × RE.Env) := fun env => (f env).bind fun x => match x.1 with
  | .nx => g x.2
  | .rt d => .ok (.rt d, x.2)
  | .bk => .ok (.bk, x.2)
  | .ct => .ok (.ct, x.2)
section
variable {X : Cx} {fa : Nat → Option Addr} {pr : Nat → Bool} {e a b c : Expr} {st : Stmt} {sts sts' : List Stmt} {pos : Pos} {f g h : RE.Env → Out (Fl × RE.Env)} {fm : RE.Env → Out (D × RE.Env)}
theorem s_pass : PS X (.Pass pos) (tS X fa pr fun env => .ok (.nx, env)) := PS.imp ps_pass fun D σ H ⟨env, Hf, Os, fl, env1, S, e, q⟩ => by cases e; exact q Hf H σ Os S StpS.refl
theorem s_brk : PS X (.Break pos) (tS X fa pr fun env => .ok (.bk, env)) := PS.imp ps_break fun D σ H ⟨env, Hf, Os, fl, env1, S, e, q⟩ => by cases e; exact q Hf H σ Os S StpS.refl
theorem s_cnt : PS X (.Continue pos) (tS X fa pr fun env => .ok (.ct, env)) := PS.imp ps_continue fun D σ H ⟨env, Hf, Os, fl, env1, S, e, q⟩ => by cases e; exact q Hf H σ Os S StpS.refl
theorem s_retN : PS X (.Return none pos) (tS X fa pr fun env => .ok (.rt .non, env)) := PS.imp ps_retN fun D σ H ⟨env, Hf, Os, fl, env1, S, e, q⟩ => by cases e; exact q Hf H σ Os S StpS.refl .non .non
theorem s_doc {x j pos'} : PS X (.Expr (.Constant (.str x) j pos) pos') (tS X fa pr fun env => .ok (.nx, env)) := PS.imp ps_doc fun D σ H ⟨env, Hf, Os, fl, env1, S, e, q⟩ => by cases e; exact q Hf H σ Os S StpS.refl
theorem s_bad (hf : ∀ env x, f env ≠ .ok x) : PS X st (tS X fa pr f) := PS.imp ps_never fun D σ H ⟨env, Hf, Os, fl, env1, S, e, q⟩ => absurd e (hf _ _)
theorem s_ret (p : PE X e (tM X fa fm)) : PS X (.Return (some e) pos) (tS X fa pr (sRet fm)) := PS.imp (ps_ret p) fun D σ H ⟨env, Hf, Os, fl, env1, S, e, q⟩ => by
  obtain ⟨⟨d, n1⟩, e1, e2⟩ := Out.bind_eq_ok e
  cases e2
  exact ⟨env, Hf, Os, d, _, S, e1, fun v Hf1 H1 S1 st1 r1 => q Hf1 H1 σ Os S1 (.of st1) v r1⟩
theorem s_expr (p : PE X e (tM X fa fm)) (hs : swapsWith e none pos.line X.env = pure false) : PS X (.Expr e pos) (tS X fa pr (sExpr fm)) := PS.imp (ps_expr p hs) fun D σ H ⟨env, Hf, Os, fl, env1, S, e, q⟩ => by
  obtain ⟨⟨d, n1⟩, e1, e2⟩ := Out.bind_eq_ok e
  cases e2
  exact ⟨env, Hf, Os, d, _, S, e1, fun v Hf1 H1 S1 st1 r1 => q Hf1 H1 σ Os S1 (.of st1)⟩
theorem s_if (p : PT X c (tMT X fa fm)) (pa : PSs X sts (tS X fa pr f)) (pb : PSs X sts' (tS X fa pr g)) : PS X (.If c sts sts' pos) (tS X fa pr (sIf fm f g)) := PS.imp (ps_if p pa pb) fun D σ H ⟨env, Hf, Os, fl, env1, S, e, q⟩ => by
  obtain ⟨⟨d, n1⟩, e1, e2⟩ := Out.bind_eq_ok e
  clear e
  obtain ⟨k, e3, e4⟩ := Out.bind_eq_ok e2
  clear e2
  refine ⟨env, Hf, Os, d, k, n1, S, e1, ofO_eq_ok e3, fun Hf1 H1 S1 st1 => ?_⟩
  have s1 : StpS pr Os Os σ σ Hf H Hf1 H1 := .of st1
  cases k with
  | true => exact ⟨n1, Hf1, Os, fl, env1, S1, e4, fun Hf2 H2 σ2 Os2 S2 st2 => q Hf2 H2 σ2 Os2 S2 (s1.trans st2)⟩
  | false => exact ⟨n1, Hf1, Os, fl, env1, S1, e4, fun Hf2 H2 σ2 Os2 S2 st2 => q Hf2 H2 σ2 Os2 S2 (s1.trans st2)⟩
theorem ss_nil : PSs X [] (tS X fa pr fun env => .ok (.nx, env)) := PSs.imp pss_nil fun D σ H ⟨env, Hf, Os, fl, env1, S, e, q⟩ => by cases e; exact q Hf H σ Os S StpS.refl
theorem ss_cons (p : PS X st (tS X fa pr f)) (ps : PSs X sts (tS X fa pr g)) : PSs X (st :: sts) (tS X fa pr (sSeq f g)) := PSs.imp (pss_cons p ps) fun D σ H ⟨env, Hf, Os, fl, env1, S, e, q⟩ => by
  obtain ⟨⟨fl1, n1⟩, e1, e2⟩ := Out.bind_eq_ok e
  clear e
  refine ⟨env, Hf, Os, fl1, n1, S, e1, fun Hf1 H1 σ1 Os1 S1 st1 => ?_⟩
  cases fl1 with
  | nx => exact ⟨n1, Hf1, Os1, fl, env1, S1, e2, fun Hf2 H2 σ2 Os2 S2 st2 => q Hf2 H2 σ2 Os2 S2 (st1.trans st2)⟩
  | bk => cases e2; exact q Hf1 H1 σ1 Os1 S1 st1
  | ct => cases e2; exact q Hf1 H1 σ1 Os1 S1 st1
  | rt d => cases e2; exact q Hf1 H1 σ1 Os1 S1 st1

/-! ### names are set -/
theorem set_ne {σ : L2.St} {i : Nat} {x : Option V} (hp : pr i = false) : ∀ j, pr j = true → (σ.set i x)[j]? = σ[j]? := fun j hj => List.getElem?_set_ne (fun z => by rw [z, hj] at hp; cases hp)
theorem if_sub {Os : Nat → List Addr} {i : Nat} : ∀ j b, b ∈ (fun j => if j = i then ([] : List Addr) else Os j) j → b ∈ Os j := fun j b hb => by
  dsimp only at hb
  split at hb
  · cases hb
  · exact hb
abbrev sSet (i : Nat) (f : RE.Env → Out (D × RE.Env)) : RE.Env → Out (Fl × RE.Env) := fun env => (f env).bind fun x => .ok (.nx, x.2.set i (.val x.1))
theorem s_set {i : Nat} {p2 : Pos} {x : Str} (hp : pr i = false) (p : ∀ {te}, PE X e te → PS X st (tAsg te (gName i))) (pe : PE X e (tM X fa fm)) : PS X st (tS X fa pr (sSet i fm)) := PS.imp (p pe) fun D σ H ⟨env, Hf, Os, fl, env1, S, e, q⟩ => by
  obtain ⟨⟨d, n1⟩, e1, e2⟩ := Out.bind_eq_ok e
  clear e
  cases e2
  refine ⟨env, Hf, Os, d, n1, S, e1, fun v Hf1 H1 S1 st1 r1 => ?_⟩
  exact q Hf1 H1 _ _ (S1.putV i r1) ((StpS.of st1).trans (.sub if_sub (set_ne hp)))
abbrev sSetF (i : Nat) (f : RE.Env → Out (List D)) : RE.Env → Out (Fl × RE.Env) := fun env => (f env).bind fun x => .ok (.nx, env.set i (.own (.lst x)))
/-- a fresh list becomes a name's own -/
theorem Sim.fresh {R : Rc} {env : RE.Env} {σ : L2.St} {Hf H : Hp} {Os : Nat → List Addr} (S : Sim R env σ Hf H Os) {i : Nat} {p : Addr} {vs : List V} {ds : List D} (hi : i < env.length) (nf : Hf p = none) (eh : H p = some (.lst vs)) (r : RpA R Hf vs ds) (no : ∀ j, p ∉ Os j) :
    Sim R (env.set i (.own (.lst ds))) (σ.set i (some (.ref p))) Hf H (fun j => if j = i then [p] else Os j) :=
  S.put i (s := .own (.lst ds)) (O := [p]) ⟨p, rfl, rfl, vs, eh, r⟩ (List.nodup_cons.mpr ⟨List.not_mem_nil, List.nodup_nil⟩) (fun j _ b hb => by rw [List.mem_singleton.mp hb]; exact no j) (fun b hb => by rw [List.mem_singleton.mp hb]; exact nf) (.inl hi)
theorem StpS.new {Os : Nat → List Addr} {σ : L2.St} {Hf H Hf1 H1 : Hp} {i : Nat} {O : List Addr} {sv : Option V} (hp : pr i = false) (st : Stp (Wn Os) Hf H Hf1 H1) (n : ∀ b ∈ O, H b = none) : StpS pr Os (fun j => if j = i then O else Os j) σ (σ.set i sv) Hf H Hf1 H1 :=
  ⟨st, fun j b hb => by
    split at hb
    · exact .inr (n b hb)
    · exact .inl ⟨j, hb⟩, set_ne hp⟩
theorem s_setF {i : Nat} {ff : RE.Env → Out (List D)} (hp : pr i = false) (hi : i < X.N.length) (hl : ∀ (pins : List (Addr × Obj)) (σ : L2.St) (H : Hp) (s : Shared), Inv X pins σ H s → σ.length = X.N.length) (p : ∀ {te}, PE X e te → PS X st (tAsg te (gName i))) (pe : PE X e (tF X fa ff)) : PS X st (tS X fa pr (sSetF i ff)) := by
  refine ⟨fun pins s σ H D I h => (p pe).run pins s σ H D I ?_⟩
  obtain ⟨env, Hf, Os, fl, env1, S, e, q⟩ := h
  obtain ⟨ds, e1, e2⟩ := Out.bind_eq_ok e
  clear e
  cases e2
  refine ⟨env, Hf, Os, ds, S, e1, fun pp vs Hf1 H1 S1 st1 n nf eh r no => ?_⟩
  have hi' : i < env.length := by rw [S.len, I.len]; exact hi
  exact q Hf1 H1 _ _ (S1.fresh hi' nf eh r no) (.new hp st1.w0 fun b hb => by rw [List.mem_singleton.mp hb]; exact n)

/-! ### loops -/
theorem s_whl {k : Nat} {cf : RE.Env → Out D} (ho : PassesOwn (model X.prog X.w) X.A X.env X.xe) (p : PT X c (tT X fa cf)) (pb : PSs X sts (tS X fa pr f)) : PS X (.While c sts [] pos) (tS X fa pr fun env => whileL cf f k env) := PS.imp (ps_while ho p pb) fun D σ H ⟨env, Hf, Os, fl, env1, S, e, q⟩ => by
  refine ⟨fun m σ1 H1 => ∃ n1 Hf1 Os1, Sim (rc X fa) n1 σ1 Hf1 H1 Os1 ∧ whileL cf f m n1 = .ok (fl, env1) ∧ StpS pr Os Os1 σ σ1 Hf H Hf1 H1, ⟨k, env, Hf, Os, S, e, StpS.refl⟩, ?_⟩
  rintro m σ1 H1 ⟨n1, Hf1, Os1, S1, e1, s1⟩
  cases m with
  | zero => cases e1
  | succ m =>
    obtain ⟨d, e2, e3⟩ := Out.bind_eq_ok e1
    obtain ⟨t, e4, e5⟩ := Out.bind_eq_ok e3
    refine ⟨n1, Hf1, Os1, d, t, S1, e2, ofO_eq_ok e4, fun Hf2 H2 S2 s2 => ?_⟩
    have s12 : StpS pr Os Os1 σ σ1 Hf H Hf2 H2 := s1.trans (.of s2.w0)
    cases t with
    | false =>
      cases e5
      show D.nx σ1 H2
      exact q Hf2 H2 σ1 Os1 S2 s12
    | true =>
      obtain ⟨⟨fl2, n2⟩, e6, e7⟩ := Out.bind_eq_ok e5
      refine (if_pos rfl : _ = _).mpr ⟨fun σ' H' => ∃ n3 Hf3 Os3, Sim (rc X fa) n3 σ' Hf3 H' Os3 ∧ whileL cf f m n3 = .ok (fl, env1) ∧ StpS pr Os Os3 σ σ' Hf H Hf3 H', fun σ' H' hh => ⟨m, Nat.lt_succ_self m, hh⟩, n1, Hf2, Os1, fl2, n2, S2, e6, fun Hf3 H3 σ3 Os3 S3 s3 => ?_⟩
      cases fl2 with
      | nx => exact ⟨n2, Hf3, Os3, S3, e7, s12.trans s3⟩
      | ct => exact ⟨n2, Hf3, Os3, S3, e7, s12.trans s3⟩
      | bk => cases e7; exact q Hf3 H3 σ3 Os3 S3 (s12.trans s3)
      | rt d => cases e7; exact q Hf3 H3 σ3 Os3 S3 (s12.trans s3)
/-- a source that may change a name's list -/
def tIM (X : Cx) (fa : Nat → Option Addr) (f : RE.Env → Out (List D × RE.Env)) : TI := fun σ H R => ∃ env Hf Os ds env1, Sim (rc X fa) env σ Hf H Os ∧ f env = .ok (ds, env1) ∧ ∀ J Hf' H', Sim (rc X fa) env1 σ Hf' H' Os → Stp (Wn Os) Hf H Hf' H' → Fix (rc X fa) J (fun Hf2 H2 => Same Hf' Hf2) ds → R J H'
theorem im_of {tg : Expr} {sf : RE.Env → Out (List D)} (p : PI X tg e (tI X fa sf)) : PI X tg e (tIM X fa fun env => (sf env).bind fun ds => .ok (ds, env)) := PI.imp p fun σ H R ⟨env, Hf, Os, ds, env1, S, e, q⟩ => by
  obtain ⟨d1, e1, e2⟩ := Out.bind_eq_ok e
  cases e2
  exact ⟨env, Hf, Os, _, S, e1, fun J Hf1 H1 S1 st1 F => q J Hf1 H1 S1 st1.w0 F⟩
theorem im_rng1 {tg : Expr} {p0 : Pos} {fs : RE.Env → Out (List D × RE.Env)} (hg : Gl X "range") (hm : X.mg "range" = none) (ha : PA X [a] (tMs X fa fs)) (hl : ∀ env ds env1, fs env = .ok (ds, env1) → ds.length = 1) (hs : starEach [a] X.env = [(false, eval a X.env)]) :
    PI X tg (.Call (.Name "range" p0) [a] [] pos) (tIM X fa fun env => (fs env).bind fun x => (rng x.1).bind fun ds => .ok (ds, x.2)) := PI.imp (pi_range1 hg hm ha hs) fun σ H R ⟨env, Hf, Os, xs, env1, S, e, q⟩ => by
  obtain ⟨⟨ds, n1⟩, e1, e2⟩ := Out.bind_eq_ok e
  obtain ⟨ys, e3, e4⟩ := Out.bind_eq_ok e2
  clear e e2
  cases e4
  refine ⟨env, Hf, Os, _, _, S, e1, fun vs Hf1 H1 S1 st1 r1 => ?_⟩
  rcases rng_ok e3 with ⟨j, rfl, h1, h2, rfl⟩ | ⟨i, j, rfl, _⟩
  · obtain ⟨v, rfl, r⟩ := r1.one
    cases r
    exact ⟨j, rfl, h1, h2, q _ Hf1 H1 S1 st1 (fix_rng 0 _)⟩
  · have := hl _ _ _ e1; simp at this
theorem s_for {tg : Expr} {T : Tg} {sf : RE.Env → Out (List D × RE.Env)} (ho : PassesOwn (model X.prog X.w) X.A X.env X.xe) (hc : X.calm = true) (pi : PI X tg e (tIM X fa sf)) (pg : PG X tg (tG X fa T)) (pb : PSs X sts (tS X fa pr f)) (hp : ∀ i ∈ tgI T, pr i = false)
    (hs : ∀ x, foldedSetIterable e X.env x = pure x) : PS X (.For tg e sts [] pos) (tS X fa pr fun env => (sf env).bind fun x => forL f T x.1 x.2) := PS.imp (ps_for ho hc pi pg pb hs) fun D σ H ⟨env, Hf, Os, fl, env1, S, e, q⟩ => by
  obtain ⟨⟨items, n0⟩, e1, e2⟩ := Out.bind_eq_ok e
  clear e
  refine ⟨env, Hf, Os, items, n0, S, e1, fun J Hf0 H0 S0 st0 F => ?_⟩
  have s0 : StpS pr Os Os σ σ Hf H Hf0 H0 := .of st0
  refine ⟨fun i m σ1 H1 => m = items.length - i ∧ i ≤ items.length ∧ ∃ n1 Hf1 Os1, Sim (rc X fa) n1 σ1 Hf1 H1 Os1 ∧ forL f T (items.drop i) n1 = .ok (fl, env1) ∧ StpS pr Os Os1 σ σ1 Hf0 H0 Hf1 H1, ⟨items.length, by simp, Nat.zero_le _, n0, Hf0, Os, S0, e2, StpS.refl⟩, ?_⟩
  rintro i m σ1 H1 ⟨rfl, hi, n1, Hf1, Os1, S1, e3, s1⟩
  have c1 : Same Hf0 Hf1 := s1.st.fr
  by_cases hlt : i < items.length
  · have hd : items.drop i = items[i] :: items.drop (i + 1) := List.drop_eq_getElem_cons hlt
    rw [hd] at e3
    obtain ⟨n2, e4, e5⟩ := Out.bind_eq_ok e3
    obtain ⟨⟨fl2, n3⟩, e6, e7⟩ := Out.bind_eq_ok e5
    clear e3 e5
    obtain ⟨go, nx⟩ := F.next n1 σ1 Hf1 H1 Os1 i items[i] c1 S1 (by simp [hlt])
    refine .inr ⟨go, fun σ' H' => ∃ n4 Hf4 Os4, Sim (rc X fa) n4 σ' Hf4 H' Os4 ∧ forL f T (items.drop (i + 1)) n4 = .ok (fl, env1) ∧ StpS pr Os Os4 σ σ' Hf0 H0 Hf4 H', fun σ' H' hh => ⟨items.length - (i + 1), by omega, rfl, hlt, hh⟩, fun x H2 y => ?_⟩
    obtain ⟨Hf2, S2, st2, rx⟩ := nx x H2 y
    refine ⟨n1, Hf2, Os1, items[i], n2, S2, rx, e4, fun σ3 Os3 S3 hs3 hw3 => ⟨n2, Hf2, Os3, fl2, n3, S3, e6, fun Hf4 H4 σ4 Os4 S4 s4 => ?_⟩⟩
    have s2 : StpS pr Os1 Os1 σ1 σ1 Hf1 H1 Hf2 H2 := .of st2.w0
    have s3 : StpS pr Os1 Os3 σ1 σ3 Hf2 H2 Hf2 H2 := .sub hs3 fun j hj => by
      have hj' : j ∉ tgI T := fun z => by rw [hp j z] at hj; cases hj
      rw [← wipe_out (σ := σ3) hj', hw3 _ (fun _ h => h), wipe_out hj']
    have s14 := s1.trans (s2.trans (s3.trans s4))
    cases fl2 with
    | nx => exact ⟨n3, Hf4, Os4, S4, e7, s14⟩
    | ct => exact ⟨n3, Hf4, Os4, S4, e7, s14⟩
    | bk => cases e7; exact q Hf4 H4 σ4 Os4 S4 (s0.trans s14)
    | rt d => cases e7; exact q Hf4 H4 σ4 Os4 S4 (s0.trans s14)
  · have ei : i = items.length := by omega
    subst ei
    rw [List.drop_length] at e3
    cases e3
    exact .inl ⟨F.stop Hf1 H1 _ c1 S1.sub (Nat.le_refl _), q Hf1 H1 σ1 Os1 S1 (s0.trans s1)⟩
end
end RE
end

section
set_option linter.all false
set_option maxRecDepth 100000
set_option maxHeartbeats 4000000
/-! RE18: freezing; append; stores. -/
namespace RE
open PySem PySem.Spec PyProof.Rows L2

section
variable {R : Rc} {env : RE.Env} {σ : L2.St} {Hf H Hf' H' : Hp} {Os : Nat → List Addr}
theorem paired_map {α β γ : Type} {F : α → β → Prop} {g : β → γ} {G : α → γ → Prop} : ∀ {l : List α} {m : List β}, Paired F l m → (∀ a ∈ l, ∀ b, F a b → G a (g b)) → Paired G l (m.map g)
  | _, _, .nil, _ => .nil
  | _, _, .cons r t, h => .cons (h _ List.mem_cons_self _ r) (paired_map t fun a ha b => h a (List.mem_cons_of_mem _ ha) b)
theorem rpA_paired : ∀ {as : List Addr} {ds : List D}, Paired (fun a d => Rp R Hf (.ref a) d) as ds → RpA R Hf (as.map V.ref) ds
  | _, _, .nil => .nil
  | _, _, .cons r t => .cons r (rpA_paired t)
theorem Sim.frz (S : Sim R env σ Hf H Os) (i : Nat) : ∃ Hf' Os', Sim R (frzS env i) σ Hf' H Os' ∧ Stp (Wn Os) Hf H Hf' H ∧ ∀ j b, b ∈ Os' j → b ∈ Os j := by
  unfold frzS
  cases e : getS env i with
  | own o =>
    dsimp only
    obtain ⟨sv, e1, h⟩ := slot_get S i (by rw [e]; exact fun z => nomatch z)
    rw [e] at h
    obtain ⟨a, rfl, ow⟩ := h
    let Hf2 : Hp := fun b => if b ∈ Os i then H b else Hf b
    have in2 : ∀ b, b ∈ Os i → Hf2 b = H b := fun b hb => if_pos hb
    have out2 : ∀ b, b ∉ Os i → Hf2 b = Hf b := fun b hb => if_neg hb
    have sf : Same Hf Hf2 := fun b o eb => by
      rw [out2 b fun z => by rw [S.new i b z] at eb; cases eb]
      exact eb
    have sub : Sub Hf2 H := fun b o eb => by
      by_cases hb : b ∈ Os i
      · rw [in2 b hb] at eb; exact .inl eb
      · rw [out2 b hb] at eb; exact S.sub b o eb
    have S0 := S.put i (s := .no) (sv := some (.ref a)) (O := []) rfl List.nodup_nil (fun _ _ b hb => nomatch hb) (fun b hb => nomatch hb) (.inr rfl)
    have hσ : σ.set i (some (.ref a)) = σ := by
      have hi := (List.getElem?_eq_some_iff.mp e1)
      obtain ⟨hl, hx⟩ := hi
      rw [← hx]
      exact List.set_getElem_self hl
    rw [hσ] at S0
    have S1 : Sim R (env.set i .no) σ Hf2 H _ := S0.mono sf sub (fun _ _ _ => rfl) fun j b hb => by
      split at hb
      · cases hb
      · rename_i hj
        rw [out2 b fun z => hj (S.dis j i b hb z)]
        exact S.new j b hb
    have rp : Rp R Hf2 (.ref a) o.frz := by
      cases o with
      | lst ds =>
        obtain ⟨hO, vs, h1, h2⟩ := ow
        exact .lst (.inl (by rw [in2 a (by rw [hO]; exact List.mem_cons_self)]; exact h1)) (h2.sub (sameSub sf))
      | lls dss =>
        obtain ⟨as, hO, h1, h2⟩ := ow
        refine .lst (.inl (by rw [in2 a (by rw [hO]; exact List.mem_cons_self)]; exact h1)) (rpA_paired (paired_map h2 fun b hb ds ⟨vs, h3, h4⟩ => ?_))
        exact .lst (.inl (by rw [in2 b (by rw [hO]; exact List.mem_cons_of_mem _ hb)]; exact h3)) (h4.sub (sameSub sf))
      | dic t kvs =>
        cases t with
        | false =>
          obtain ⟨hO, ks, h1, h2⟩ := ow
          exact .dK (.inl (by rw [in2 a (by rw [hO]; exact List.mem_cons_self)]; exact h1)) (h2.sub (sameSub sf))
        | true =>
          obtain ⟨hO, ks, h1, h2, h3⟩ := ow
          exact .dT (.inl (by rw [in2 a (by rw [hO]; exact List.mem_cons_self)]; exact h1)) (h2.sub (sameSub sf)) h3
    have S2 := S1.putV i rp
    rw [hσ] at S2
    unfold setS at S2
    rw [List.set_set] at S2
    refine ⟨Hf2, _, S2, ⟨sf, fun b o eb _ => eb, fun b nb z => .inr ⟨i, ?_⟩, fun b z => z⟩, fun j b hb => ?_⟩
    · by_cases hb : b ∈ Os i
      · exact hb
      · rw [out2 b hb] at z; exact absurd nb z
    · split at hb
      · cases hb
      · exact hb
  | _ => exact ⟨Hf, Os, S, Stp.refl _ _ _, fun _ _ h => h⟩
/-- one name's own objects change, others come to them -/
theorem Sim.alter (S : Sim R env σ Hf H Os) {i : Nat} {s : Slot} {O : List Addr} (hi : i < env.length) (st : Stp (fun b => b ∈ Os i ∨ b ∈ O) Hf H Hf' H') (sub : Sub Hf' H') (nd : O.Nodup) (ap : ∀ b ∈ O, ∀ j, j ≠ i → b ∉ Os j) (hn : ∀ b ∈ O, Hf' b = none) (hs : ∀ sv, σ[i]? = some sv → SlotOk R Hf' H' O s sv) :
    Sim R (env.set i s) σ Hf' H' (fun j => if j = i then O else Os j) := by
  refine ⟨by rw [List.length_set]; exact S.len, sub, fun j t e => ?_, fun j hj => ?_, fun j k a ha hk => ?_, fun j => ?_, fun j a ha => ?_⟩
  · by_cases hj : j = i
    · subst hj
      rw [List.getElem?_set_self hi] at e
      cases e
      have hσ : σ[j]? = some (σ[j]'(by rw [← S.len]; exact hi)) := List.getElem?_eq_getElem _
      exact ⟨_, hσ, by rw [if_pos rfl]; exact hs _ hσ⟩
    · rw [List.getElem?_set_ne (fun z => hj z.symm)] at e
      obtain ⟨sv', e1, h1⟩ := S.slot j t e
      have k : ∀ b ∈ Os j, H' b = H b := fun b hb => by
        have h := S.there hb
        cases e2 : H b with
        | none => exact absurd e2 h
        | some o => exact st.kp b o e2 fun z => z.elim (fun z => hj (S.dis j i b hb z)) fun z => ap b z j hj hb
      exact ⟨sv', e1, by rw [if_neg hj]; exact h1.mono st.fr k⟩
  · rw [List.length_set] at hj
    rw [if_neg (by omega)]
    exact S.out j hj
  · by_cases h1 : j = i <;> by_cases h2 : k = i
    · rw [h1, h2]
    · rw [if_pos h1] at ha; rw [if_neg h2] at hk; exact absurd hk (ap a ha k h2)
    · rw [if_neg h1] at ha; rw [if_pos h2] at hk; exact absurd ha (ap a hk j h1)
    · rw [if_neg h1] at ha; rw [if_neg h2] at hk; exact S.dis j k a ha hk
  · by_cases h1 : j = i
    · rw [if_pos h1]; exact nd
    · rw [if_neg h1]; exact S.nod j
  · by_cases h1 : j = i
    · rw [if_pos h1] at ha; exact hn a ha
    · rw [if_neg h1] at ha
      cases e : Hf' a with
      | none => rfl
      | some o =>
        rcases st.nw a (S.new j a ha) (by rw [e]; exact fun z => nomatch z) with z | z | z
        · exact absurd z (S.there ha)
        · exact absurd (S.dis j i a ha z) h1
        · exact absurd ha (ap a z j h1)
/-- an own object is written -/
theorem Stp.write {W : Addr → Prop} {a : Addr} {o : HO} (h : W a) : Stp W Hf H Hf (upd H a o) :=
  ⟨Same.refl _, fun b u e n => by rw [upd_ne fun z => n (by rw [z]; exact h)]; exact e, fun b n z => absurd n z, fun b z => by
    by_cases hb : b = a
    · rw [hb, upd_same]; exact fun z => nomatch z
    · rw [upd_ne hb]; exact z⟩
theorem Sub.write {a : Addr} {o : HO} (s : Sub Hf H) (n : Hf a = Option.none) : Sub Hf (upd H a o) := fun b u e => by
  rw [upd_ne fun z => by rw [z, n] at e; cases e]
  exact s b u e
theorem getS_lt {i : Nat} (h : getS env i ≠ .no) : i < env.length := by
  by_cases hi : i < env.length
  · exact hi
  · exact absurd (by unfold getS; rw [List.getD_eq_getElem?_getD, List.getElem?_eq_none (by omega)]; rfl) h
/-- a name's own list is rewritten -/
theorem Sim.wlst (S : Sim R env σ Hf H Os) {i : Nat} {a : Addr} {us : List V} {xs : List D} (ha : σ[i]? = some (some (.ref a))) (hO : Os i = [a]) (hn : Hf a = none) (r : RpA R Hf us xs) : Sim R (env.set i (.own (.lst xs))) σ Hf (upd H a (.lst us)) Os :=
  S.change hO (Stp.write List.mem_cons_self) (S.sub.write hn) (fun b hb => by rw [List.mem_singleton.mp hb]; exact hn) fun sv e => by
    rw [ha] at e
    cases e
    exact ⟨a, rfl, rfl, us, upd_same, r⟩
end

section
variable {X : Cx} {fa : Nat → Option Addr} {pr : Nat → Bool} {e a b c o k : Expr} {es : List Expr} {st : Stmt} {sts sts' : List Stmt} {pos apos cpos : Pos} {f g h : RE.Env → Out (Fl × RE.Env)} {fm : RE.Env → Out (D × RE.Env)} {i : Nat}
theorem s_frz (p : PS X st (tS X fa pr f)) : PS X st (tS X fa pr fun env => f (frzS env i)) := PS.imp p fun Z σ H ⟨env, Hf, Os, fl, env1, S, e, q⟩ => by
  obtain ⟨Hf1, Os1, S1, st1, sub⟩ := S.frz i
  exact ⟨frzS env i, Hf1, Os1, fl, env1, S1, e, fun Hf2 H2 σ2 Os2 S2 s2 => q Hf2 H2 σ2 Os2 S2 (StpS.trans ⟨st1, fun j b hb => .inl ⟨j, sub j b hb⟩, fun _ _ => rfl⟩ s2)⟩
theorem Sim.ownLst {R : Rc} {env : RE.Env} {σ : L2.St} {Hf H : Hp} {Os : Nat → List Addr} (S : Sim R env σ Hf H Os) (h : isOwnL (getS env i) = true) : ∃ a vs, σ[i]? = some (some (.ref a)) ∧ H a = some (.lst vs) := by
  cases q : getS env i with
  | own o =>
    obtain ⟨sv, e1, h1⟩ := slot_get S i (by rw [q]; exact fun z => nomatch z)
    rw [q] at h h1
    obtain ⟨a, rfl, ow⟩ := h1
    cases o with
    | lst xs => obtain ⟨_, vs, h2, _⟩ := ow; exact ⟨a, vs, e1, h2⟩
    | lls xs => obtain ⟨as, _, h2, _⟩ := ow; exact ⟨a, _, e1, h2⟩
    | dic t kvs => cases h
  | _ => rw [q] at h; cases h
/-- x.append(e) -/
theorem s_app (hv : PE X o (tVar i)) (p : PE X e (tM X fa fm)) (hbase : attributeBase o "append" X.env (eval o X.env) = eval o X.env) (hfew : ((backTo cpos (starEach [e] X.env)).all (fun x => !x.1) && (backToKw cpos (keywordEach [] X.env)).all (fun x => x.1.isSome)
      && decide ([e].length + ([] : List Keyword).length + (if ([] : List Keyword).isEmpty then 0 else 1) < 30)) = true) (hline : (apos.endLine == cpos.line) = true) (hs : starEach [e] X.env = (false, eval e X.env) :: starEach [] X.env) :
    PS X (.Expr (.Call (.Attribute o "append" apos) [e] [] cpos) pos) (tS X fa pr fun env => chk (isOwnL (getS env i)) ((fm env).bind fun x => appD i x.2 x.1 (getS x.2 i))) :=
  PS.imp (ps_expr (pe_bm F.plainAttrs_list F.slot_list_append F.type_list_append mt_append hv (pa_cons p pa_nil hs) hbase hfew hline hs rfl) rfl) fun Z σ H ⟨env, Hf, Os, fl, env1, S, e, q⟩ => by
    obtain ⟨h0, e1⟩ := chk_eq_ok e
    clear e
    obtain ⟨⟨d, n1⟩, e2, e3⟩ := Out.bind_eq_ok e1
    clear e1
    obtain ⟨a, vs, ha, hH⟩ := S.ownLst h0
    refine ⟨.ref a, ha, .inl ⟨rfl, vs, .inl (.inl hH)⟩, env, Hf, Os, d, n1, S, e2, fun v Hf1 H1 S1 st1 r1 => ?_⟩
    dsimp only at e3
    cases hx : getS n1 i with
    | own w =>
      rw [hx] at e3
      cases w with
      | lst xs =>
        obtain ⟨hz, e4⟩ := chk_eq_ok e3
        cases e4
        obtain ⟨a', ws, ha', hO, hH1, rw', hn⟩ := S1.ownL hx
        rw [ha] at ha'
        cases ha'
        refine ⟨a, ws, v, rfl, rfl, hH1, by rw [rw'.length]; exact inLim_lt hz, ?_⟩
        exact q Hf1 _ σ Os (S1.wlst ha hO hn (rw'.append (.cons r1 .nil))) (.of (st1.trans (Stp.write ⟨i, by rw [hO]; exact List.mem_cons_self⟩)))
      | _ => cases e3
    | _ => rw [hx] at e3; cases e3
/-- x.append([..]) of a table -/
theorem s_appF {ff : RE.Env → Out (List D)} (hv : PE X o (tVar i)) (p : PE X e (tF X fa ff)) (hbase : attributeBase o "append" X.env (eval o X.env) = eval o X.env) (hfew : ((backTo cpos (starEach [e] X.env)).all (fun x => !x.1) && (backToKw cpos (keywordEach [] X.env)).all (fun x => x.1.isSome)
      && decide ([e].length + ([] : List Keyword).length + (if ([] : List Keyword).isEmpty then 0 else 1) < 30)) = true) (hline : (apos.endLine == cpos.line) = true) (hs : starEach [e] X.env = (false, eval e X.env) :: starEach [] X.env) :
    PS X (.Expr (.Call (.Attribute o "append" apos) [e] [] cpos) pos) (tS X fa pr fun env => (ff env).bind fun ds => appFD i env ds (getS env i)) :=
  PS.imp (ps_expr (pe_bm F.plainAttrs_list F.slot_list_append F.type_list_append mt_append hv (pa_cons p pa_nil hs) hbase hfew hline hs rfl) rfl) fun Z σ H ⟨env, Hf, Os, fl, env1, S, e, q⟩ => by
    obtain ⟨ds, e2, e3⟩ := Out.bind_eq_ok e
    clear e
    have fin : ∀ (a : Addr) (as : List Addr) (dss : List (List D)), σ[i]? = some (some (.ref a)) → Os i = a :: as → H a = some (.lst (as.map V.ref)) → Paired (fun b ds => ∃ vs, H b = some (.lst vs) ∧ RpA (rc X fa) Hf vs ds) as dss → as.length < sizeLine → i < env.length →
        (∀ Hf' H' σ' Os', Sim (rc X fa) (env.set i (.own (.lls (dss ++ [ds])))) σ' Hf' H' Os' → StpS pr Os Os' σ σ' Hf H Hf' H' → EndS (rc X fa) Z .nx Hf' σ' H') →
        tBM X.K "list" rAppend (tVar i) (tCons (tF X fa ff) tNil) σ H fun _ H1 => Z.nx σ H1 := by
      intro a as dss ha hO hH hp hz hi q
      refine ⟨.ref a, ha, .inl ⟨rfl, _, .inl (.inl hH)⟩, env, Hf, Os, ds, S, e2, fun p vs Hf1 H1 S1 st1 n nf eh r no => ?_⟩
      have hO1 := st1.same a _ hH
      have hna : Hf1 a = none := S1.new i a (by rw [hO]; exact List.mem_cons_self)
      have hap : a ≠ p := fun z => no i (by rw [hO, z]; exact List.mem_cons_self)
      refine ⟨a, _, .ref p, rfl, rfl, hO1, by rw [List.length_map]; exact hz, ?_⟩
      have nd := S1.nod i
      rw [hO] at nd
      refine q Hf1 _ σ _ (S1.alter (O := a :: (as ++ [p])) hi (Stp.write (.inl (by rw [hO]; exact List.mem_cons_self))) (S1.sub.write hna) ?_ (fun b hb j hj hbj => ?_) (fun b hb => ?_) fun sv e => ?_) ⟨st1.w0.trans (Stp.write ⟨i, by rw [hO]; exact List.mem_cons_self⟩), fun j b hb => ?_, fun _ _ => rfl⟩
      · have h1 := List.nodup_cons.mp nd
        refine List.nodup_cons.mpr ⟨fun z => ?_, List.nodup_append.mpr ⟨h1.2, List.nodup_cons.mpr ⟨List.not_mem_nil, List.nodup_nil⟩, fun x hx y hy => ?_⟩⟩
        · rcases List.mem_append.mp z with z | z
          · exact h1.1 z
          · exact hap (List.mem_singleton.mp z)
        · rw [List.mem_singleton.mp hy]
          exact fun z => no i (by rw [hO, ← z]; exact List.mem_cons_of_mem _ hx)
      · have : b ∈ Os i ∨ b = p := by
          rw [hO]
          rcases List.mem_cons.mp hb with z | z
          · exact .inl (by rw [z]; exact List.mem_cons_self)
          · rcases List.mem_append.mp z with z | z
            · exact .inl (List.mem_cons_of_mem _ z)
            · exact .inr (List.mem_singleton.mp z)
        rcases this with z | z
        · exact hj (S1.dis j i b hbj z)
        · exact no j (by rw [← z]; exact hbj)
      · rcases List.mem_cons.mp hb with z | z
        · rw [z]; exact hna
        · rcases List.mem_append.mp z with z | z
          · exact S1.new i b (by rw [hO]; exact List.mem_cons_of_mem _ z)
          · rw [List.mem_singleton.mp z]; exact nf
      · rw [ha] at e
        cases e
        refine ⟨a, rfl, as ++ [p], rfl, ?_, ?_⟩
        · rw [upd_same, List.map_append]; rfl
        · have app : ∀ {l : List Addr} {m : List (List D)}, Paired (fun b ds => ∃ vs, H b = some (.lst vs) ∧ RpA (rc X fa) Hf vs ds) l m → (∀ b ∈ l, b ≠ a) → Paired (fun b ds => ∃ vs, upd H1 a (.lst (as.map V.ref ++ [.ref p])) b = some (.lst vs) ∧ RpA (rc X fa) Hf1 vs ds) (l ++ [p]) (m ++ [ds]) := by
            intro l m hp
            induction hp with
            | nil => intro _; exact .cons ⟨vs, by rw [upd_ne hap.symm]; exact eh, r⟩ .nil
            | cons r1 t ih =>
              intro hne
              obtain ⟨ws, h1, h2⟩ := r1
              exact .cons ⟨ws, by rw [upd_ne (hne _ List.mem_cons_self)]; exact st1.same _ _ h1, h2.sub (sameSub st1.fr)⟩ (ih fun b hb => hne b (List.mem_cons_of_mem _ hb))
          exact app hp fun b hb z => (List.nodup_cons.mp nd).1 (by rw [← z]; exact hb)
      · split at hb
        · rcases List.mem_cons.mp hb with z | z
          · exact .inl ⟨i, by rw [hO, z]; exact List.mem_cons_self⟩
          · rcases List.mem_append.mp z with z | z
            · exact .inl ⟨i, by rw [hO]; exact List.mem_cons_of_mem _ z⟩
            · rw [List.mem_singleton.mp z]; exact .inr n
        · exact .inl ⟨j, hb⟩
    cases hx : getS env i with
    | own w =>
      have hi := getS_lt (env := env) (i := i) (by rw [hx]; exact fun z => nomatch z)
      obtain ⟨sv, e1, h1⟩ := slot_get S i (by rw [hx]; exact fun z => nomatch z)
      rw [hx] at e3 h1
      obtain ⟨a, rfl, ow⟩ := h1
      cases w with
      | lst xs =>
        cases xs with
        | nil =>
          cases e3
          obtain ⟨hO, vs, h2, h3⟩ := ow
          cases h3
          exact fin a [] [] e1 hO h2 .nil (by decide) hi q
        | cons _ _ => cases e3
      | lls xss =>
        obtain ⟨hz, e4⟩ := chk_eq_ok e3
        cases e4
        obtain ⟨as, hO, h2, h3⟩ := ow
        have len : ∀ {l : List Addr} {m : List (List D)} {F : Addr → List D → Prop}, Paired F l m → l.length = m.length := by
          intro l m F h
          induction h with
          | nil => rfl
          | cons _ _ ih => exact congrArg (· + 1) ih
        exact fin a as xss e1 hO h2 h3 (by rw [len h3]; exact inLim_lt hz) hi q
      | dic t kvs => cases e3
    | _ => rw [hx] at e3; cases e3
end
end RE
end

section
set_option linter.all false
set_option maxRecDepth 100000
set_option maxHeartbeats 4000000
/-! RE19: dicts are written; targets; assignments. -/
namespace RE
open PySem PySem.Spec PyProof.Rows L2

/-! ### d[k] = v -/
theorem putK_pos {ks : List (Key × V)} {k : Key} {v : V} (h : (ks.any fun kv => decide (kv.1 = k)) = true) : putK ks k v = ks.map fun kv => if kv.1 = k then (kv.1, v) else kv := by unfold putK; rw [if_pos h]
theorem putK_neg {ks : List (Key × V)} {k : Key} {v : V} (h : (ks.any fun kv => decide (kv.1 = k)) = false) : putK ks k v = ks ++ [(k, v)] := by unfold putK; rw [if_neg (by rw [h]; exact Bool.false_ne_true)]
theorem putD_pos {ks : List (D × D)} {k : D} {v : D} (h : hasD ks k = true) : putD ks k v = ks.map fun kv => if eqv kv.1 k = true then (kv.1, v) else kv := by unfold putD; rw [if_pos h]
theorem putD_neg {ks : List (D × D)} {k : D} {v : D} (h : hasD ks k = false) : putD ks k v = ks ++ [(k, v)] := by unfold putD; rw [if_neg (by rw [h]; exact Bool.false_ne_true)]
theorem RpK.len {R : Rc} {H : Hp} : ∀ {ks : List (Key × V)} {kvs : List (D × D)}, RpK R H ks kvs → ks.length = kvs.length
  | _, _, .nil => rfl
  | _, _, .cons _ b => congrArg (· + 1) b.len
theorem RpT.len {R : Rc} {H : Hp} : ∀ {ks : List DictEntry} {kvs : List (D × D)}, RpT R H ks kvs → ks.length = kvs.length
  | _, _, .nil => rfl
  | _, _, .cons _ _ _ _ _ _ b => congrArg (· + 1) b.len
theorem RpK.any {R : Rc} {H : Hp} {key : Key} : ∀ {ks : List (Key × V)} {kvs : List (D × D)}, RpK R H ks kvs → (ks.any fun kv => decide (kv.1 = key)) = hasD kvs (kD key)
  | _, _, .nil => rfl
  | _, _, .cons (k := k0) _ b => by
    show (decide (k0 = key) || _) = (eqv (kD k0) (kD key) || _)
    rw [kD_eqv]
    exact congrArg _ b.any
theorem RpK.map {R : Rc} {H : Hp} {key : Key} {v : V} {d : D} (r : Rp R H v d) : ∀ {ks : List (Key × V)} {kvs : List (D × D)}, RpK R H ks kvs → RpK R H (ks.map fun kv => if kv.1 = key then (kv.1, v) else kv) (kvs.map fun kv => if eqv kv.1 (kD key) = true then (kv.1, d) else kv)
  | _, _, .nil => .nil
  | _, _, .cons (k := k0) (v := v0) (d := d0) a b => by
    show RpK R H ((if k0 = key then (k0, v) else (k0, v0)) :: _) ((if eqv (kD k0) (kD key) = true then (kD k0, d) else (kD k0, d0)) :: _)
    rw [kD_eqv]
    by_cases h : k0 = key
    · rw [if_pos h, if_pos (decide_eq_true h)]
      exact .cons r (b.map r)
    · rw [if_neg h, if_neg (by simpa using h)]
      exact .cons a (b.map r)
theorem RpK.app {R : Rc} {H : Hp} {key : Key} {v : V} {d : D} (r : Rp R H v d) : ∀ {ks : List (Key × V)} {kvs : List (D × D)}, RpK R H ks kvs → RpK R H (ks ++ [(key, v)]) (kvs ++ [(kD key, d)])
  | _, _, .nil => .cons r .nil
  | _, _, .cons a b => .cons a (b.app r)
theorem RpK.put {R : Rc} {H : Hp} {key : Key} {v : V} {d : D} {ks : List (Key × V)} {kvs : List (D × D)} (h : RpK R H ks kvs) (r : Rp R H v d) : RpK R H (putK ks key v) (putD kvs (kD key) d) := by
  cases q : hasD kvs (kD key) with
  | true => rw [putK_pos (by rw [h.any]; exact q), putD_pos q]; exact h.map r
  | false => rw [putK_neg (by rw [h.any]; exact q), putD_neg q]; exact h.app r
theorem RpT.keys {R : Rc} {H : Hp} : ∀ {L : List DictEntry} {kvs : List (D × D)}, RpT R H L kvs → ∀ kv ∈ kvs, keyT kv.1 = true
  | _, _, .nil, kv, h => nomatch h
  | _, _, .cons _ _ c _ _ _ g, kv, h => by
    rcases List.mem_cons.mp h with z | z
    · rw [z]; exact c
    · exact g.keys kv z
theorem atKey_any {α : Type} [DecidableEq α] (xs : List (α × Addr × Value)) (k : α) : (atKey xs k).isSome = xs.any fun x => decide (x.1 = k) := by
  unfold atKey
  rw [Option.isSome_map, Bool.eq_iff_iff, List.find?_isSome, List.any_eq_true]
section
variable {P : Program} {w : World} {R : Rc} {H : Hp} {k : D} {b : Addr} {z : V} {u : Value} {d : D}
theorem RpT.ent (hw : R.w = w) : ∀ {L : List DictEntry} {kvs : List (D × D)}, RpT R H L kvs → L = (xsOf L kvs).map (entryOfKey (nestedKind P w))
  | _, _, .nil => rfl
  | e :: L, (k0, d0) :: kvs, .cons e1 e2 e3 e4 e5 e6 e7 => by
    show e :: L = entryOfKey _ (nk k0, (match e.key with | .ref b => b | _ => 0), e.val) :: (xsOf L kvs).map _
    rw [← RpT.ent hw e7]
    congr 1
    unfold entryOfKey
    cases e
    simp only at e1 e4 ⊢
    subst e1 e4 hw
    rfl
theorem RpT.map (hw : R.w = w) (hk : keyT k = true) (rz : RelV z u) (r : Rp R H z d) : ∀ {L : List DictEntry} {kvs : List (D × D)}, RpT R H L kvs → RpT R H (((xsOf L kvs).map (putAt (nk k) u)).map (entryOfKey (nestedKind P w))) (kvs.map fun kv => if eqv kv.1 k = true then (kv.1, d) else kv)
  | _, _, .nil => .nil
  | e :: L, (k0, d0) :: kvs, .cons (b := b0) e1 e2 e3 e4 e5 e6 e7 => by
    show RpT R H (entryOfKey _ (putAt (nk k) u (nk k0, (match e.key with | .ref b => b | _ => 0), e.val)) :: _) ((if eqv k0 k = true then (k0, d) else (k0, d0)) :: _)
    rw [e1, eqv_keyT e3 hk]
    unfold putAt
    by_cases h : nk k0 = nk k
    · rw [if_pos (decide_eq_true h)]
      simp only [h, if_true]
      exact .cons rfl e2 e3 (by subst hw; rw [h]; rfl) rz r (RpT.map hw hk rz r e7)
    · rw [if_neg (by simpa using h)]
      simp only [h, if_false]
      exact .cons rfl e2 e3 (by subst hw; rfl) e5 e6 (RpT.map hw hk rz r e7)
theorem RpT.app (hw : R.w = w) (hk : keyT k = true) (rb : Rp R H (.ref b) k) (rz : RelV z u) (r : Rp R H z d) : ∀ {L : List DictEntry} {kvs : List (D × D)}, RpT R H L kvs → RpT R H (((xsOf L kvs) ++ [(nk k, b, u)]).map (entryOfKey (nestedKind P w))) (kvs ++ [(k, d)])
  | _, _, .nil => .cons rfl rb hk (by subst hw; rfl) rz r .nil
  | e :: L, (k0, d0) :: kvs, .cons (b := b0) e1 e2 e3 e4 e5 e6 e7 => by
    show RpT R H (entryOfKey _ (nk k0, (match e.key with | .ref b => b | _ => 0), e.val) :: _) ((k0, d0) :: _)
    rw [e1]
    exact .cons rfl e2 e3 (by subst hw; rfl) e5 e6 (RpT.app hw hk rb rz r e7)
theorem RpT.any (hk : keyT k = true) : ∀ {L : List DictEntry} {kvs : List (D × D)}, RpT R H L kvs → ((xsOf L kvs).any fun x => decide (x.1 = nk k)) = hasD kvs k
  | _, _, .nil => rfl
  | e :: L, (k0, d0) :: kvs, .cons e1 e2 e3 e4 e5 e6 e7 => by
    show (decide (nk k0 = nk k) || _) = (eqv k0 k || _)
    rw [eqv_keyT e3 hk]
    exact congrArg _ (RpT.any hk e7)
theorem put_nodup {L : List DictEntry} {kvs : List (D × D)} (h : RpT R H L kvs) (hk : keyT k = true) (n : (kvs.map fun kv => nk kv.1).Nodup) : ((putD kvs k d).map fun kv => nk kv.1).Nodup := by
  cases q : hasD kvs k with
  | true =>
    rw [putD_pos q, List.map_map]
    have : ((fun kv : D × D => nk kv.1) ∘ fun kv => if eqv kv.1 k = true then (kv.1, d) else kv) = fun kv => nk kv.1 := by
      funext kv
      show nk (if eqv kv.1 k = true then (kv.1, d) else kv).1 = _
      split <;> rfl
    rw [this]
    exact n
  | false =>
    rw [putD_neg q, List.map_append]
    refine List.nodup_append.mpr ⟨n, List.nodup_cons.mpr ⟨List.not_mem_nil, List.nodup_nil⟩, fun x hx y hy => ?_⟩
    obtain ⟨kv, h1, rfl⟩ := List.mem_map.mp hx
    have hy : y = nk k := List.mem_singleton.mp hy
    subst hy
    intro e
    have : eqv kv.1 k = true := by rw [eqv_keyT (h.keys kv h1) hk]; exact decide_eq_true e
    unfold hasD at q
    rw [List.any_eq_false] at q
    exact absurd this (by simpa using q kv h1)
end
section
variable {X : Cx} {fa : Nat → Option Addr}
/-- o[i] = v: an own list, an own dict -/
def rSetO (X : Cx) (fa : Nat → Option Addr) (n : Nat) : TSet := fun o i v H Q => ∃ env σ Hf Os k d env1, Sim (rc X fa) env σ Hf H Os ∧ (∃ a, o = .ref a ∧ σ[n]? = some (some (.ref a))) ∧ Rp (rc X fa) Hf i k ∧ Rp (rc X fa) Hf v d ∧ putSub env n d k (getS env n) = .ok env1 ∧
  ∀ H', Sim (rc X fa) env1 σ Hf H' Os → Stp (Wn Os) Hf H Hf H' → Q H'
theorem set_own (hu : X.A.units + 65 < cLine) (n : Nat) : PSet X (rSetO X fa n) := by
  intro pins s σ' H o i v ov iv u Q I ro ri rv h
  obtain ⟨env, σ, Hf, Os, k, d, env1, S, ⟨a, rfl, ha⟩, rk, rd, e, q⟩ := h
  cases hx : getS env n with
  | own w =>
    rw [hx] at e
    obtain ⟨sv, e1, h1⟩ := slot_get S n (by rw [hx]; exact fun z => nomatch z)
    rw [ha] at e1
    cases e1
    rw [hx] at h1
    obtain ⟨a', e2, ow⟩ := h1
    cases e2
    have wr : ∀ (ob : HO) (s' : Slot), (SlotOk (rc X fa) Hf (upd H a ob) (Os n) s' (some (.ref a))) → Os n = [a] → env1 = env.set n s' → Q (upd H a ob) := fun ob s' hs hO e => by
      have hn : Hf a = none := S.new n a (by rw [hO]; exact List.mem_cons_self)
      subst e
      refine q _ (S.change hO (Stp.write List.mem_cons_self) (S.sub.write hn) (fun b hb => by rw [List.mem_singleton.mp hb]; exact hn) fun sv e => ?_) (Stp.write ⟨n, by rw [hO]; exact List.mem_cons_self⟩)
      rw [ha] at e
      cases e
      rw [← hO]
      exact hs
    cases w with
    | lst xs =>
      cases k with
      | int j =>
        obtain ⟨m, e3, e4⟩ := Out.bind_eq_ok e
        cases e4
        obtain ⟨hO, vs, h2, h3⟩ := ow
        cases rk
        refine set_list pins s σ' H _ _ v ov iv u Q I ro ri rv ⟨a, vs, j, m, rfl, rfl, h2, by rw [h3.length]; exact ofO_eq_ok e3, ?_⟩
        exact wr _ (.own (.lst _)) ⟨a, rfl, hO, _, upd_same, h3.set rd m⟩ hO rfl
      | _ => cases e
    | lls xss => cases k <;> cases e
    | dic t kvs =>
      have e : chk (keyOf t k && inLim (kvs.length + 1)) (.ok (env.set n (.own (.dic t (putD kvs k d))))) = .ok env1 := by cases k <;> exact e
      obtain ⟨hk, e3⟩ := chk_eq_ok e
      cases e3
      simp only [Bool.and_eq_true] at hk
      obtain ⟨hk, hz⟩ := hk
      have hz := inLim_lt hz
      cases t with
      | false =>
        obtain ⟨hO, ks, h2, h3⟩ := ow
        obtain ⟨key, ek, lv⟩ := key_of0 hk
        subst ek
        have ei : i = kV key := lv (Ld.rp (H := H) rk)
        subst ei
        refine set_dict (by omega) pins s σ' H _ _ v ov iv u Q I ro ri rv ⟨a, _, rfl, DPut.k h2 (by rw [h3.len]; exact hz), ?_⟩
        exact wr _ (.own (.dic false _)) ⟨a, rfl, hO, _, upd_same, h3.put rd⟩ hO rfl
      | true =>
        obtain ⟨hO, L, h2, h3, h4⟩ := ow
        have hk : keyT k = true := hk
        cases ro
        obtain ⟨b, rfl⟩ : ∃ b, i = .ref b := by
          cases rk with
          | tup h r => exact ⟨_, rfl⟩
          | _ => cases hk
        cases ri
        obtain ⟨⟨o, ep, ho, hx', hd, hl, hm⟩, _, _⟩ := I.hok a _ h2
        have hxs : s.heap.DictOfH (nestedKind X.prog X.w) a (xsOf L kvs) := by
          obtain ⟨⟨xs', hx2, e2⟩, _, _, _⟩ := dk_keyed I S.sub (.inl h2) h3 h4
          refine ⟨o, L.toArray, ep, ho, hx', hd, by simpa using RpT.ent (P := X.prog) rfl h3, fun x hx => ?_, ?_⟩
          · have go : ∀ {L : List DictEntry} {kvs : List (D × D)}, RpT (rc X fa) Hf L kvs → ∀ x ∈ xsOf L kvs, (nestedKind X.prog X.w).is s.heap x.1 x.2.1 := by
              intro L kvs r
              induction L generalizing kvs with
              | nil => cases r; exact fun _ hx => nomatch hx
              | cons e L ih =>
                cases r with
                | cons e1 e2 e3 e4 e5 e6 e7 =>
                  intro x hx
                  rcases List.mem_cons.mp hx with rfl | hx
                  · show (nestedKind X.prog X.w).is s.heap _ (match e.key with | .ref b => b | _ => 0)
                    rw [e1]
                    exact rp_key I e3 (e2.sub S.sub)
                  · exact ih e7 x hx
            exact go h3 x hx
          · have go : ∀ {L : List DictEntry} {kvs : List (D × D)}, RpT (rc X fa) Hf L kvs → (xsOf L kvs).map (·.1) = kvs.map (fun kv => nk kv.1) := by
              intro L kvs r
              induction L generalizing kvs with
              | nil => cases r; rfl
              | cons e L ih =>
                cases r with
                | cons e1 e2 e3 e4 e5 e6 e7 => exact congrArg (nk _ :: ·) (ih e7)
            rw [go h3]
            exact h4
        have hkey : (nestedKind X.prog X.w).is s.heap (nk k) b := rp_key I hk (rk.sub S.sub)
        have hll := h3.len
        have hxl : (xsOf L kvs).length = L.length := by
          have := congrArg List.length (RpT.ent (P := X.prog) (w := X.w) (R := rc X fa) rfl h3)
          rw [List.length_map] at this
          exact this.symm
        refine wpAny_setItem_heap (by show X.A.units + 1 + 8 < cLine; omega) hkey hxs (fun h' hm' hsb => ?_) (by rw [hxl, hll]; omega)
        -- the new entries
        generalize hL' : (storedH (xsOf L kvs) (nk k) b u).map (entryOfKey (nestedKind X.prog X.w)) = L' at hm'
        have r' : RpT (rc X fa) Hf L' (putD kvs k d) := by
          rw [← hL']
          unfold storedH
          rw [atKey_any, RpT.any hk h3]
          cases qq : hasD kvs k with
          | true => rw [putD_pos qq, if_pos rfl]; exact RpT.map rfl hk rv rd h3
          | false => rw [putD_neg qq, if_neg Bool.false_ne_true]; exact RpT.app rfl hk rk rv rd h3
        have hlen : L'.length ≤ sizeLine := by
          rw [r'.len]
          refine Nat.le_trans ?_ (show kvs.length + 1 ≤ sizeLine from hz)
          unfold putD
          split
          · rw [List.length_map]; omega
          · rw [List.length_append]; exact Nat.le_refl _
        obtain ⟨o', es', ep', ho', hx2, hd', he', _, _⟩ := hm'
        have hes : es' = L'.toArray := by
          rw [← hL']
          rw [← he']
        subst hes
        refine ⟨upd H a (DkO a L'), I.write (x := a) (e := a) (t' := s.toks + (nestedKind X.prog X.w).draws (nk k)) (by rw [h2]; trivial) (.inl rfl) (fun b' ob hb q' => (hsb.2 b' hb).trans q') ⟨o', ho'⟩ ⟨⟨o', ep', ho', hx2, hd', hlen, hm⟩, ⟨o', ho'⟩, fun h1 h2 ⟨o1, ep1, e1, e2, e3, e4, e5⟩ hh => ⟨o1, ep1, hh o1 e1, e2, e3, e4, e5⟩⟩, ?_⟩
        exact wr _ (.own (.dic true _)) ⟨a, rfl, hO, L', upd_same, r', put_nodup h3 hk h4⟩ hO rfl
  | _ => rw [hx] at e; cases k <;> cases e
end
end RE
end

section
set_option linter.all false
set_option maxRecDepth 100000
set_option maxHeartbeats 4000000
/-! RE20: targets; assignments. -/
namespace RE
open PySem PySem.Spec PyProof.Rows L2

/-! ### what waits to be stored -/
inductive PendA (R : Rc) (Hf H : Hp) (Os : Nat → List Addr) : List RV → List V → List Addr → Prop
  | nil : PendA R Hf H Os [] [] []
  | val {v : V} {d : D} {rvs : List RV} {vs : List V} {A : List Addr} : Rp R Hf v d → PendA R Hf H Os rvs vs A → PendA R Hf H Os (.val d :: rvs) (v :: vs) A
  | own {o : Own} {a : Addr} {O : List Addr} {rvs : List RV} {vs : List V} {A : List Addr} : OwnAt R Hf H o a O → O.Nodup → (∀ b ∈ O, Hf b = none ∧ (∀ j, b ∉ Os j) ∧ b ∉ A) → PendA R Hf H Os rvs vs A → PendA R Hf H Os (.own o :: rvs) (.ref a :: vs) (O ++ A)
section
variable {R : Rc} {Hf H Hf' H' : Hp} {Os Os' : Nat → List Addr} {rvs : List RV} {vs : List V} {A : List Addr}
theorem PendA.len (h : PendA R Hf H Os rvs vs A) : vs.length = rvs.length := by
  induction h with
  | nil => rfl
  | val _ _ ih => exact congrArg (· + 1) ih
  | own _ _ _ _ ih => exact congrArg (· + 1) ih
theorem PendA.mem (h : PendA R Hf H Os rvs vs A) : ∀ b ∈ A, H b ≠ none ∧ Hf b = none ∧ ∀ j, b ∉ Os j := by
  induction h with
  | nil => exact fun b hb => nomatch hb
  | val _ _ ih => exact ih
  | own a b c d ih =>
    intro x hx
    rcases List.mem_append.mp hx with z | z
    · exact ⟨a.there x z, (c x z).1, (c x z).2.1⟩
    · exact ih x z
theorem PendA.move (h : PendA R Hf H Os rvs vs A) (sf : Same Hf Hf') (k : ∀ b ∈ A, H' b = H b) (n : ∀ b ∈ A, Hf' b = none ∧ ∀ j, b ∉ Os' j) : PendA R Hf' H' Os' rvs vs A := by
  induction h with
  | nil => exact .nil
  | val r _ ih => exact .val (r.sub (sameSub sf)) (ih k n)
  | own a b c d ih =>
    refine .own (a.mono sf fun x hx => k x (List.mem_append_left _ hx)) b (fun x hx => ⟨(n x (List.mem_append_left _ hx)).1, (n x (List.mem_append_left _ hx)).2, (c x hx).2.2⟩) (ih (fun x hx => k x (List.mem_append_right _ hx)) fun x hx => n x (List.mem_append_right _ hx))
/-- what waits stays, over a step of the names' own -/
theorem PendA.step (h : PendA R Hf H Os rvs vs A) (st : Stp (Wn Os) Hf H Hf' H') : PendA R Hf' H' Os rvs vs A := by
  have m := h.mem
  have nw : ∀ b ∈ A, ¬ Wn Os b := fun b hb ⟨j, hj⟩ => (m b hb).2.2 j hj
  refine h.move st.fr (fun b hb => ?_) fun b hb => ⟨?_, (m b hb).2.2⟩
  · cases e : H b with
    | none => exact absurd e (m b hb).1
    | some o => exact st.kp b o e (nw b hb)
  · cases e : Hf' b with
    | none => rfl
    | some o =>
      rcases st.nw b (m b hb).2.1 (by rw [e]; exact fun z => nomatch z) with z | z
      · exact absurd z (m b hb).1
      · exact absurd z (nw b hb)
end
/-- a step that may change what W tells -/
structure StpG (W : Addr → Prop) (pr : Nat → Bool) (Os' : Nat → List Addr) (σ σ' : L2.St) (Hf H Hf' H' : Hp) : Prop where
  st : Stp W Hf H Hf' H'
  os : ∀ i b, b ∈ Os' i → W b ∨ H b = none
  pr : ∀ i, pr i = true → σ'[i]? = σ[i]?
/-- behind fresh things of A -/
theorem StpG.toS {pr : Nat → Bool} {Os Os' : Nat → List Addr} {σ σ' : L2.St} {Hf H Hf1 H1 Hf2 H2 : Hp} {A : List Addr} (a : Stp (Wn Os) Hf H Hf1 H1) (hA : ∀ b ∈ A, H b = none) (b : StpG (fun b => Wn Os b ∨ b ∈ A) pr Os' σ σ' Hf1 H1 Hf2 H2) : StpS pr Os Os' σ σ' Hf H Hf2 H2 := by
  have nn : ∀ x, H1 x = none → H x = none := fun x h => by
    cases e : H x with
    | none => rfl
    | some o => exact absurd h (a.st x (by rw [e]; exact fun z => nomatch z))
  refine ⟨⟨a.fr.trans b.st.fr, fun x o e n => ?_, fun x n z => ?_, fun x z => b.st.st x (a.st x z)⟩, fun i x h => ?_, b.pr⟩
  · refine b.st.kp x o (a.kp x o e n) fun z => ?_
    rcases z with z | z
    · exact n z
    · rw [hA x z] at e; cases e
  · by_cases h1 : Hf1 x = none
    · rcases b.st.nw x h1 z with q | q | q
      · exact .inl (nn x q)
      · exact .inr q
      · exact .inl (hA x q)
    · exact a.nw x n h1
  · rcases b.os i x h with (q | q) | q
    · exact .inl q
    · exact .inr (hA x q)
    · exact .inr (nn x q)

section
variable (X : Cx) (fa : Nat → Option Addr)
/-- a right side -/
def tR (f : RE.Env → Out (RV × RE.Env)) : TE := fun σ H Q => ∃ env Hf Os rv env1, Sim (rc X fa) env σ Hf H Os ∧ f env = .ok (rv, env1) ∧
  ∀ v A Hf' H', Sim (rc X fa) env1 σ Hf' H' Os → Stp (Wn Os) Hf H Hf' H' → PendA (rc X fa) Hf' H' Os [rv] [v] A → (∀ b ∈ A, H b = none) → Q v H'
def tRs (f : RE.Env → Out (List RV × RE.Env)) : TA := fun σ H Q => ∃ env Hf Os rvs env1, Sim (rc X fa) env σ Hf H Os ∧ f env = .ok (rvs, env1) ∧
  ∀ vs A Hf' H', Sim (rc X fa) env1 σ Hf' H' Os → Stp (Wn Os) Hf H Hf' H' → PendA (rc X fa) Hf' H' Os rvs vs A → (∀ b ∈ A, H b = none) → Q vs H'
/-- a target -/
def tGt (pr : Nat → Bool) (f : RV → RE.Env → Out RE.Env) : TG := fun v σ H Q => ∃ env Hf Os rv A env1, Sim (rc X fa) env σ Hf H Os ∧ PendA (rc X fa) Hf H Os [rv] [v] A ∧ f rv env = .ok env1 ∧
  ∀ Hf' H' σ' Os', Sim (rc X fa) env1 σ' Hf' H' Os' → StpG (fun b => Wn Os b ∨ b ∈ A) pr Os' σ σ' Hf H Hf' H' → Q σ' H'
def tGts (pr : Nat → Bool) (f : List RV → RE.Env → Out RE.Env) : TGs := fun vs σ H Q => ∃ env Hf Os rvs A env1, Sim (rc X fa) env σ Hf H Os ∧ PendA (rc X fa) Hf H Os rvs vs A ∧ f rvs env = .ok env1 ∧
  ∀ Hf' H' σ' Os', Sim (rc X fa) env1 σ' Hf' H' Os' → StpG (fun b => Wn Os b ∨ b ∈ A) pr Os' σ σ' Hf H Hf' H' → Q σ' H'
end
abbrev rVal (f : RE.Env → Out (D × RE.Env)) : RE.Env → Out (RV × RE.Env) := fun env => (f env).bind fun x => .ok (.val x.1, x.2)
abbrev rOwn (f : RE.Env → Out (List D)) : RE.Env → Out (RV × RE.Env) := fun env => (f env).bind fun ds => .ok (.own (.lst ds), env)
section
variable {X : Cx} {fa : Nat → Option Addr} {pr : Nat → Bool} {e a b c o k tg : Expr} {es tgs : List Expr} {st : Stmt} {pos : Pos} {fm : RE.Env → Out (D × RE.Env)} {i : Nat} {cl : Cl} {fr : RE.Env → Out (RV × RE.Env)} {frs : RE.Env → Out (List RV × RE.Env)} {ft : RV → RE.Env → Out RE.Env} {fts : List RV → RE.Env → Out RE.Env}
theorem r_valI {σ : L2.St} {H : Hp} {Q : VK} (h : tR X fa (rVal fm) σ H Q) : tM X fa fm σ H Q := by
  obtain ⟨env, Hf, Os, rv, env1, S, e, q⟩ := h
  obtain ⟨⟨d, n1⟩, e1, e2⟩ := Out.bind_eq_ok e
  cases e2
  exact ⟨env, Hf, Os, d, _, S, e1, fun v Hf1 H1 S1 st1 r1 => q v [] Hf1 H1 S1 st1 (.val r1 .nil) fun b hb => nomatch hb⟩
theorem pend_new {R : Rc} {Hf H : Hp} {Os : Nat → List Addr} {p : Addr} {us : List V} {ds : List D} (nf : Hf p = none) (eh : H p = some (.lst us)) (r : RpA R Hf us ds) (no : ∀ j, p ∉ Os j) : PendA R Hf H Os [.own (.lst ds)] [.ref p] [p] :=
  .own (O := [p]) (A := []) ⟨rfl, us, eh, r⟩ (List.nodup_cons.mpr ⟨List.not_mem_nil, List.nodup_nil⟩) (fun b hb => by rw [List.mem_singleton.mp hb]; exact ⟨nf, no, List.not_mem_nil⟩) .nil
theorem r_ownI {ff : RE.Env → Out (List D)} {σ : L2.St} {H : Hp} {Q : VK} (h : tR X fa (rOwn ff) σ H Q) : tF X fa ff σ H Q := by
  obtain ⟨env, Hf, Os, rv, env1, S, e, q⟩ := h
  obtain ⟨ds, e1, e2⟩ := Out.bind_eq_ok e
  cases e2
  exact ⟨env, Hf, Os, ds, S, e1, fun p us Hf1 H1 S1 st1 n nf eh r no => q (.ref p) [p] Hf1 H1 S1 st1.w0 (pend_new nf eh r no) fun b hb => by rw [List.mem_singleton.mp hb]; exact n⟩
theorem pr_val (p : PE X e (tM X fa fm)) : PE X e (tR X fa (rVal fm)) := PE.imp p fun _ _ _ h => r_valI h
theorem pr_own {ff : RE.Env → Out (List D)} (p : PE X e (tF X fa ff)) : PE X e (tR X fa (rOwn ff)) := PE.imp p fun _ _ _ h => r_ownI h
def tDNewO : TE := fun _ H Q => ∀ p, H p = none → Q (.ref p) (upd H p (DkO p []))
theorem pe_dnewO : PE X (.Dict [] [] pos) tDNewO := ⟨fun pins s σ H Q I h => by
  refine wpAny_Dict_empty ⟨.ref s.heap.objs.size, _, I.laid (a := s.heap.objs.size) (o := DkO s.heap.objs.size []) (t' := s.toks) (fun _ _ q => Heap.get?_push_of_some _ q) (Nat.le_refl _) ?_, rfl, h _ (I.hok.fresh (Nat.le_refl _))⟩
  obtain ⟨_, hm, _⟩ := dt_empty (P := X.prog) (w := X.w) (H := H) s.heap I.big
  have hg : (s.heap.push ({ cls := .type "dict", data := .dict #[] } : Obj)).get? s.heap.objs.size = some _ := Heap.get?_push_size _ rfl
  exact ⟨⟨_, 0, hg, ⟨rfl, rfl, rfl⟩, rfl, Nat.zero_le _, hm⟩, ⟨_, hg⟩, fun h1 h2 ⟨o1, ep1, e1, e2, e3, e4, e5⟩ hh => ⟨o1, ep1, hh o1 e1, e2, e3, e4, e5⟩⟩⟩
theorem pr_dic (t : Bool) : PE X (.Dict [] [] pos) (tR X fa fun env => .ok (.own (.dic t []), env)) := by
  cases t with
  | false =>
    refine PE.imp pe_dnewK fun σ H Q ⟨env, Hf, Os, rv, env1, S, e, q⟩ => ?_
    cases e
    intro p n
    have hnf := S.sub.none n
    refine q (.ref p) [p] Hf _ (S.allocH _ n) (Stp.allocH _ n _) (.own (O := [p]) (A := []) ⟨rfl, [], upd_same, .nil⟩ (List.nodup_cons.mpr ⟨List.not_mem_nil, List.nodup_nil⟩) (fun b hb => ?_) .nil) fun b hb => by rw [List.mem_singleton.mp hb]; exact n
    rw [List.mem_singleton.mp hb]
    exact ⟨hnf, fun j hj => S.there hj n, List.not_mem_nil⟩
  | true =>
    refine PE.imp pe_dnewO fun σ H Q ⟨env, Hf, Os, rv, env1, S, e, q⟩ => ?_
    cases e
    intro p n
    have hnf := S.sub.none n
    refine q (.ref p) [p] Hf _ (S.allocH _ n) (Stp.allocH _ n _) (.own (O := [p]) (A := []) ⟨rfl, [], upd_same, .nil, List.nodup_nil⟩ (List.nodup_cons.mpr ⟨List.not_mem_nil, List.nodup_nil⟩) (fun b hb => ?_) .nil) fun b hb => by rw [List.mem_singleton.mp hb]; exact n
    rw [List.mem_singleton.mp hb]
    exact ⟨hnf, fun j hj => S.there hj n, List.not_mem_nil⟩
theorem prs_nil : PA X [] (tRs X fa fun env => .ok ([], env)) := PA.imp pa_nil fun σ H Q ⟨env, Hf, Os, d, env1, S, e, q⟩ => by
  cases e
  exact q [] [] Hf H S (Stp.refl _ _ _) .nil fun b hb => nomatch hb
abbrev rCons (f : RE.Env → Out (RV × RE.Env)) (g : RE.Env → Out (List RV × RE.Env)) : RE.Env → Out (List RV × RE.Env) := fun env => (f env).bind fun x => (g x.2).bind fun y => .ok (x.1 :: y.1, y.2)
theorem prs_cons (p : PE X e (tR X fa fr)) (ps : PA X es (tRs X fa frs)) (hs : starEach (e :: es) X.env = (false, eval e X.env) :: starEach es X.env) : PA X (e :: es) (tRs X fa (rCons fr frs)) := PA.imp (pa_cons p ps hs) fun σ H Q ⟨env, Hf, Os, d, env1, S, e, q⟩ => by
  obtain ⟨⟨d1, n1⟩, e1, e3⟩ := Out.bind_eq_ok e
  clear e
  obtain ⟨⟨ds, n2⟩, e2, e4⟩ := Out.bind_eq_ok e3
  clear e3
  cases e4
  refine ⟨env, Hf, Os, d1, n1, S, e1, fun v A1 Hf1 H1 S1 st1 p1 f1 => ⟨n1, Hf1, Os, ds, _, S1, e2, fun vs A2 Hf2 H2 S2 st2 p2 f2 => ?_⟩⟩
  have p1' := p1.step st2
  have m1 := p1.mem
  have nn : ∀ x, H1 x = none → H x = none := fun x h => by
    cases e : H x with
    | none => rfl
    | some o => exact absurd h (st1.st x (by rw [e]; exact fun z => nomatch z))
  cases p1' with
  | val r rest =>
    cases rest
    exact q (v :: vs) A2 Hf2 H2 S2 (st1.trans st2) (.val r p2) fun b hb => nn b (f2 b hb)
  | @own o a O _ _ A3 r1 r2 r3 rest =>
    cases rest
    refine q _ (O ++ A2) Hf2 H2 S2 (st1.trans st2) (.own r1 r2 (fun b hb => ⟨(r3 b hb).1, (r3 b hb).2.1, fun z => ?_⟩) p2) fun b hb => ?_
    · exact (m1 b (List.mem_append_left _ hb)).1 (f2 b z)
    · rcases List.mem_append.mp hb with z | z
      · exact f1 b (List.mem_append_left _ z)
      · exact nn b (f2 b z)

/-! ### targets -/
theorem gt_name (hp : pr i = false) (hi : i < X.N.length) (h : PG X tg (gName i)) : PG X tg (tGt X fa pr fun rv env => .ok (env.set i (slotOf rv))) := ⟨fun pins s σ H v u Q I r ⟨env, Hf, Os, rv, A, env1, S, p, e, q⟩ => by
  refine h.run pins s σ H v u Q I r ?_
  cases e
  have hi' : i < env.length := by rw [S.len, I.len]; exact hi
  cases p with
  | val r rest =>
    cases rest
    exact q Hf H _ _ (S.putV i r) ⟨Stp.refl _ _ _, fun j b hb => .inl (.inl ⟨j, if_sub j b hb⟩), set_ne hp⟩
  | @own o a O _ _ A3 r1 r2 r3 rest =>
    cases rest
    refine q Hf H _ _ (S.put i (s := .own _) (O := O) ⟨a, rfl, r1⟩ r2 (fun j _ b hb => (r3 b hb).2.1 j) (fun b hb => (r3 b hb).1) (.inl hi')) ⟨Stp.refl _ _ _, fun j b hb => ?_, set_ne hp⟩
    split at hb
    · exact .inl (.inr (List.mem_append_left _ hb))
    · exact .inl (.inl ⟨j, hb⟩)⟩
abbrev fSub (f : RE.Env → Out D) (i : Nat) : RV → RE.Env → Out RE.Env := fun rv env => match rv with
  | .val d => (f env).bind fun k => putSub env i d k (getS env i)
  | _ => .bad
theorem own_ref {R : Rc} {env : RE.Env} {σ : L2.St} {Hf H : Hp} {Os : Nat → List Addr} (S : Sim R env σ Hf H Os) {n : Nat} {d k : D} {env1 : RE.Env} (e : putSub env n d k (getS env n) = .ok env1) : ∃ a, σ[n]? = some (some (.ref a)) := by
  refine S.ownR ?_
  cases q : getS env n with
  | own o => rfl
  | _ => rw [q] at e; cases k <;> cases e
theorem gt_sub {f : RE.Env → Out D} (hu : X.A.units + 65 < cLine) (hv : PE X o (tVar i)) (pk : PE X k (tP X fa f)) (ha : ∀ v, assign (.Subscript o k pos) X.env v = (do
      let ov ← holding [v] (eval o X.env)
      let iv ← holding [v, ov] (eval k X.env)
      standAt pos
      holding [v, ov, iv] (setItem ov iv v)
      release [v, ov, iv] [])) : PG X (.Subscript o k pos) (tGt X fa pr (fSub f i)) :=
  PG.imp (pg_sub hv pk (set_own hu i) ha) fun v σ H Q ⟨env, Hf, Os, rv, A, env1, S, p, e, q⟩ => by
    cases p with
    | own _ _ _ _ => cases e
    | val r rest =>
      cases rest
      obtain ⟨d1, e1, e2⟩ := Out.bind_eq_ok e
      obtain ⟨a, ha⟩ := own_ref S e2
      refine ⟨.ref a, ha, env, Hf, Os, d1, S, e1, fun iv Hf1 H1 S1 st1 r1 => ⟨env, σ, Hf1, Os, d1, _, env1, S1, ⟨a, rfl, ha⟩, r1, r.sub (sameSub st1.fr), e2, fun H2 S2 st2 => ?_⟩⟩
      exact q Hf1 H2 σ Os S2 ⟨(st1.w0.trans st2).weak fun b hb => .inl hb, fun j b hb => .inl (.inl ⟨j, hb⟩), fun _ _ => rfl⟩
/-- the inner list of a table -/
def tIn (X : Cx) (fa : Nat → Option Addr) (f : RE.Env → Out D) (i : Nat) : TE := fun σ H Q => ∃ env Hf Os j xss n, Sim (rc X fa) env σ Hf H Os ∧ f env = .ok (.int j) ∧ getS env i = .own (.lls xss) ∧ ixN xss.length j = some n ∧
  ∀ Hf' H' a as b, Sim (rc X fa) env σ Hf' H' Os → Stp W0 Hf H Hf' H' → σ[i]? = some (some (.ref a)) → Os i = a :: as → as[n]? = some b → Q (.ref b) H'
theorem paired_len {α β : Type} {F : α → β → Prop} : ∀ {l : List α} {m : List β}, Paired F l m → l.length = m.length
  | _, _, .nil => rfl
  | _, _, .cons _ t => congrArg (· + 1) (paired_len t)
theorem paired_get {α β : Type} {F : α → β → Prop} : ∀ {l : List α} {m : List β} {n : Nat} {a : α} {b : β}, Paired F l m → l[n]? = some a → m[n]? = some b → F a b
  | _, _, _, _, _, .nil, h, _ => by simp at h
  | _, _, 0, _, _, .cons r t, h, h' => by simp at h h'; subst h h'; exact r
  | _, _, n + 1, _, _, .cons r t, h, h' => paired_get t (by simpa using h) (by simpa using h')
theorem pe_in {f : RE.Env → Out D} (hv : PE X o (tVar i)) (pk : PE X k (tP X fa f)) (hs : PlainIx k) : PE X (.Subscript o k pos) (tIn X fa f i) := PE.imp (pe_ix ix_list hv pk hs) fun σ H Q ⟨env, Hf, Os, j, xss, n, S, e1, e2, e3, q⟩ => by
  obtain ⟨sv, h1, h2⟩ := slot_get S i (by rw [e2]; exact fun z => nomatch z)
  rw [e2] at h2
  obtain ⟨a, rfl, as, hO, hH, hp⟩ := h2
  refine ⟨.ref a, h1, env, Hf, Os, _, S, e1, fun iv Hf1 H1 S1 st1 r1 => ?_⟩
  cases r1
  have hn : n < as.length := by
    rw [paired_len hp]
    exact (ixN_seq e3).2.1
  refine ⟨a, as.map V.ref, j, .ref as[n], rfl, rfl, .inl (.inl (st1.same _ _ hH)), ?_, q Hf1 H1 a as as[n] S1 st1 h1 hO (by simp [hn])⟩
  unfold atI
  rw [List.length_map, paired_len hp, e3]
  show (as.map V.ref)[n]? = _
  rw [List.getElem?_map, List.getElem?_eq_getElem hn]
  rfl
abbrev fSub2 (f g : RE.Env → Out D) (i : Nat) : RV → RE.Env → Out RE.Env := fun rv env => match rv with
  | .val d => (f env).bind fun k => (g env).bind fun l => putSub2 env i d k l (getS env i)
  | _ => .bad
theorem putSub2_ok {env env1 : RE.Env} {i : Nat} {d k l : D} {s : Slot} (h : putSub2 env i d k l s = .ok env1) : ∃ j m xss n xs q, k = .int j ∧ l = .int m ∧ s = .own (.lls xss) ∧ ixN xss.length j = some n ∧ xss[n]? = some xs ∧ ixN xs.length m = some q ∧ env1 = env.set i (.own (.lls (xss.set n (xs.set q d)))) := by
  unfold putSub2 at h
  split at h
  · obtain ⟨n, h1, h⟩ := Out.bind_eq_ok h
    obtain ⟨xs, h2, h⟩ := Out.bind_eq_ok h
    obtain ⟨q, h3, h⟩ := Out.bind_eq_ok h
    cases h
    exact ⟨_, _, _, n, xs, q, rfl, rfl, rfl, ofO_eq_ok h1, ofO_eq_ok h2, ofO_eq_ok h3, rfl⟩
  · cases h
theorem gt_sub2 {f g : RE.Env → Out D} {p2 : Pos} (hv : PE X o (tVar i)) (pk : PE X k (tP X fa f)) (hs : PlainIx k) (pl : PE X c (tP X fa g)) (ha : ∀ v, assign (.Subscript (.Subscript o k p2) c pos) X.env v = (do
      let ov ← holding [v] (eval (.Subscript o k p2) X.env)
      let iv ← holding [v, ov] (eval c X.env)
      standAt pos
      holding [v, ov, iv] (setItem ov iv v)
      release [v, ov, iv] [])) : PG X (.Subscript (.Subscript o k p2) c pos) (tGt X fa pr (fSub2 f g i)) :=
  PG.imp (pg_sub (pe_in hv pk hs) pl set_list ha) fun v σ H Q ⟨env, Hf, Os, rv, A, env1, S, p, e, q⟩ => by
    cases p with
    | own _ _ _ _ => cases e
    | @val _ d0 _ _ _ r rest =>
      cases rest
      obtain ⟨d1, e1, e2⟩ := Out.bind_eq_ok e
      obtain ⟨d2, e3, e4⟩ := Out.bind_eq_ok e2
      obtain ⟨j, m, xss, n, xs, q', rfl, rfl, hx, h1, h2, h3, rfl⟩ := putSub2_ok e4
      refine ⟨env, Hf, Os, j, xss, n, S, e1, hx, h1, fun Hf1 H1 a as b S1 st1 ha hO hb => ⟨env, Hf1, Os, _, S1, e3, fun iv Hf2 H2 S2 st2 r2 => ?_⟩⟩
      cases r2
      obtain ⟨sv, t1, t2⟩ := slot_get S2 i (by rw [hx]; exact fun z => nomatch z)
      rw [ha] at t1
      cases t1
      rw [hx] at t2
      obtain ⟨a', t3, as', hO', hH, hp⟩ := t2
      cases t3
      rw [hO] at hO'
      cases hO'
      obtain ⟨vs, t4, t5⟩ := paired_get hp hb h2
      have hbi : b ∈ Os i := by rw [hO]; exact List.mem_cons_of_mem _ (List.mem_of_getElem? hb)
      have hnb : Hf2 b = none := S2.new i b hbi
      have nd := S2.nod i
      rw [hO] at nd
      have nd2 := List.nodup_cons.mp nd
      have hab : a ≠ b := fun z => nd2.1 (by rw [z]; exact List.mem_of_getElem? hb)
      refine ⟨b, vs, m, q', rfl, rfl, t4, by rw [t5.length]; exact h3, ?_⟩
      refine q Hf2 _ σ Os (S2.change rfl (Stp.write hbi) (S2.sub.write hnb) (fun x hx => S2.new i x hx) fun sv e => ?_) ⟨((st1.trans st2).w0.trans (Stp.write (.inl ⟨i, hbi⟩))), fun j b hb => .inl (.inl ⟨j, hb⟩), fun _ _ => rfl⟩
      rw [ha] at e
      cases e
      refine ⟨a, rfl, as, hO, by rw [upd_ne hab]; exact hH, ?_⟩
      have hv2 := r.sub (sameSub (st1.trans st2).fr)
      have go : ∀ {l : List Addr} {ms : List (List D)} {n : Nat}, Paired (fun b ds => ∃ vs, H2 b = some (.lst vs) ∧ RpA (rc X fa) Hf2 vs ds) l ms → l.Nodup → l[n]? = some b → Paired (fun x ds => ∃ us, upd H2 b (.lst (vs.set q' v)) x = some (.lst us) ∧ RpA (rc X fa) Hf2 us ds) l (ms.set n (xs.set q' d0)) := by
        intro l
        induction l with
        | nil => intro ms n hp _ hb; simp at hb
        | cons x l ih =>
          intro ms n hp hnd hb
          cases hp with
          | cons r1 t =>
            obtain ⟨ws, w1, w2⟩ := r1
            have hnd' := List.nodup_cons.mp hnd
            cases n with
            | zero =>
              simp at hb
              subst hb
              refine .cons ⟨_, upd_same, t5.set hv2 q'⟩ (paired_imp (fun y hy ds ⟨us, u1, u2⟩ => ⟨us, ?_, u2⟩) t)
              rw [upd_ne fun z => hnd'.1 (by rw [← z]; exact hy)]
              exact u1
            | succ n =>
              have hb' : l[n]? = some b := by simpa using hb
              refine .cons ⟨ws, ?_, w2⟩ (ih t hnd'.2 hb')
              rw [upd_ne fun z => hnd'.1 (by rw [z]; exact List.mem_of_getElem? hb')]
              exact w1
      exact go hp nd2.2 hb
theorem gts_nil : PGs X [] (tGts X fa pr fun rvs env => match rvs with | [] => .ok env | _ => .bad) := ⟨fun pins s σ H vs us Q I r ⟨env, Hf, Os, rvs, A, env1, S, p, e, q⟩ => by
  refine pgs_nil.run pins s σ H vs us Q I r ?_
  cases p with
  | nil => cases e; exact ⟨rfl, q Hf H σ Os S ⟨Stp.refl _ _ _, fun j b hb => .inl (.inl ⟨j, hb⟩), fun _ _ => rfl⟩⟩
  | val _ _ => cases e
  | own _ _ _ _ => cases e⟩
abbrev gCons' (f : RV → RE.Env → Out RE.Env) (g : List RV → RE.Env → Out RE.Env) : List RV → RE.Env → Out RE.Env := fun rvs env => match rvs with
  | v :: vs => (f v env).bind fun env1 => g vs env1
  | _ => .bad
theorem gts_cons (h1 : PG X e (tGt X fa pr ft)) (h2 : PGs X es (tGts X fa pr fts)) (hs : (assignEach (e :: es) X.env).map (·.2) = assign e X.env :: (assignEach es X.env).map (·.2)) : PGs X (e :: es) (tGts X fa pr (gCons' ft fts)) := ⟨fun pins s σ H vs us Q I r ⟨env, Hf, Os, rvs, A, env1, S, p, e, q⟩ => by
  refine (pgs_cons h1 h2 hs).run pins s σ H vs us Q I r ?_
  -- the first is stored, the rest wait
  have key : ∀ (rv : RV) (rvs : List RV) (v : V) (vs : List V) (A1 A2 : List Addr), PendA (rc X fa) Hf H Os [rv] [v] A1 → PendA (rc X fa) Hf H Os rvs vs A2 → (∀ b ∈ A1, b ∉ A2) → (∀ b, b ∈ A1 ∨ b ∈ A2 → b ∈ A) → ((ft rv env).bind fun env1 => fts rvs env1) = .ok env1 → gCons (tGt X fa pr ft) (tGts X fa pr fts) (v :: vs) σ H Q := by
    intro rv rvs v vs A1 A2 p1 p2 ap hA e
    obtain ⟨n1, e1, e2⟩ := Out.bind_eq_ok e
    refine ⟨v, vs, rfl, env, Hf, Os, rv, A1, n1, S, p1, e1, fun Hf1 H1 σ1 Os1 S1 s1 => ?_⟩
    have m2 := p2.mem
    have nW : ∀ b ∈ A2, ¬ (Wn Os b ∨ b ∈ A1) := fun b hb z => z.elim (fun ⟨j, hj⟩ => (m2 b hb).2.2 j hj) fun z => ap b z hb
    have p2' : PendA (rc X fa) Hf1 H1 Os1 rvs vs A2 := by
      refine p2.move s1.st.fr (fun b hb => ?_) fun b hb => ⟨?_, fun j hj => ?_⟩
      · cases e : H b with
        | none => exact absurd e (m2 b hb).1
        | some o => exact s1.st.kp b o e (nW b hb)
      · cases e : Hf1 b with
        | none => rfl
        | some o =>
          rcases s1.st.nw b (m2 b hb).2.1 (by rw [e]; exact fun z => nomatch z) with z | z
          · exact absurd z (m2 b hb).1
          · exact absurd z (nW b hb)
      · rcases s1.os j b hj with z | z
        · exact nW b hb z
        · exact (m2 b hb).1 z
    refine ⟨n1, Hf1, Os1, rvs, A2, env1, S1, p2', e2, fun Hf2 H2 σ2 Os2 S2 s2 => q Hf2 H2 σ2 Os2 S2 ?_⟩
    have nn : ∀ x, H1 x = none → H x = none := fun x h => by
      cases e : H x with
      | none => rfl
      | some o => exact absurd h (s1.st.st x (by rw [e]; exact fun z => nomatch z))
    have w1 : ∀ x, (Wn Os x ∨ x ∈ A1) → (Wn Os x ∨ x ∈ A) := fun x z => z.imp id fun z => hA x (.inl z)
    have w2 : ∀ x, (Wn Os1 x ∨ x ∈ A2) → (Wn Os x ∨ x ∈ A) ∨ H x = none := fun x z => by
      rcases z with ⟨j, hj⟩ | z
      · exact (s1.os j x hj).imp (w1 x) id
      · exact .inl (.inr (hA x (.inr z)))
    refine ⟨⟨s1.st.fr.trans s2.st.fr, fun x o e n => ?_, fun x n z => ?_, fun x z => s2.st.st x (s1.st.st x z)⟩, fun j x hx => ?_, fun j hj => (s2.pr j hj).trans (s1.pr j hj)⟩
    · refine s2.st.kp x o (s1.st.kp x o e fun z => n (w1 x z)) fun z => ?_
      rcases w2 x z with z | z
      · exact n z
      · rw [z] at e; cases e
    · by_cases hx : Hf1 x = none
      · rcases s2.st.nw x hx z with z | z
        · exact .inl (nn x z)
        · exact (w2 x z).symm
      · exact (s1.st.nw x n hx).imp id (w1 x)
    · rcases s2.os j x hx with z | z
      · exact w2 x z
      · exact .inr (nn x z)
  cases p with
  | nil => cases e
  | val r0 rest => exact key _ _ _ _ [] A (.val r0 .nil) rest (fun b hb => nomatch hb) (fun b hb => hb.elim (fun z => nomatch z) id) e
  | @own o a O rvs vs A2 r1 r2 r3 rest =>
    exact key _ _ _ _ (O ++ []) A2 (.own r1 r2 (fun b hb => ⟨(r3 b hb).1, (r3 b hb).2.1, List.not_mem_nil⟩) .nil) rest (fun b hb => by rw [List.append_nil] at hb; exact (r3 b hb).2.2) (fun b hb => by rw [List.append_nil] at hb; exact List.mem_append.mpr hb) e⟩
/-! ### statements -/
/-- target = e -/
theorem s_asg (p : PS X st (tAsg (tR X fa fr) (tGt X fa pr ft))) : PS X st (tS X fa pr fun env => (fr env).bind fun x => (ft x.1 x.2).bind fun env2 => .ok (.nx, env2)) := PS.imp p fun Z σ H ⟨env, Hf, Os, fl, env1, S, e, q⟩ => by
  obtain ⟨⟨rv, n1⟩, e1, e2⟩ := Out.bind_eq_ok e
  clear e
  obtain ⟨n2, e3, e4⟩ := Out.bind_eq_ok e2
  clear e2
  cases e4
  exact ⟨env, Hf, Os, rv, n1, S, e1, fun v A Hf1 H1 S1 st1 p1 f1 => ⟨n1, Hf1, Os, rv, A, _, S1, p1, e3, fun Hf2 H2 σ2 Os2 S2 s2 => q Hf2 H2 σ2 Os2 S2 (s2.toS st1 f1)⟩⟩
/-- (t, ..) = (e, ..) -/
theorem s_par {kt k2 : Nat} {pt pe : Pos} (hc : X.calm = true) (ps : PA X es (tRs X fa frs)) (pg : PGs X tgs (tGts X fa pr fts)) (hl : ∀ env rvs env1, frs env = .ok (rvs, env1) → rvs.length = tgs.length) (hl2 : tgs.length ≤ 1000) (hn : (assignEach tgs X.env).length = tgs.length) (hst : (assignEach tgs X.env).findIdx? (·.1) = none)
    (hs : swapsWithSole [.Tuple tgs kt pt] (.Tuple es k2 pe) pos.line X.env = pure false) (hw : swappedStores [.Tuple tgs kt pt] (.Tuple es k2 pe) X.env = pure none) (h1 : (assignEach [.Tuple tgs kt pt] X.env).map (·.2) = [assign (.Tuple tgs kt pt) X.env]) :
    PS X (.Assign [.Tuple tgs kt pt] (.Tuple es k2 pe) pos) (tS X fa pr fun env => (frs env).bind fun x => (fts x.1 x.2).bind fun env2 => .ok (.nx, env2)) := PS.imp (ps_asg (pe_tup ps) (pg_tup hc pg hn hst) hs hw h1) fun Z σ H ⟨env, Hf, Os, fl, env1, S, e, q⟩ => by
  obtain ⟨⟨rvs, n1⟩, e1, e2⟩ := Out.bind_eq_ok e
  clear e
  obtain ⟨n2, e3, e4⟩ := Out.bind_eq_ok e2
  clear e2
  cases e4
  refine ⟨env, Hf, Os, rvs, n1, S, e1, fun vs A Hf1 H1 S1 st1 p1 f1 => ⟨?_, fun T hT => ?_⟩⟩
  · rw [p1.len, hl _ _ _ e1]
    exact Nat.le_of_lt (small1000 hl2)
  · have hA : ∀ b ∈ A, b ≠ T := fun b hb z => (p1.mem b hb).1 (by rw [z]; exact hT)
    have s2 : Stp (Wn Os) Hf1 H1 Hf1 (upd H1 T (.tup vs)) := Stp.allocH _ hT _
    refine ⟨T, vs, rfl, SqT.of upd_same, by rw [p1.len, hl _ _ _ e1], n1, Hf1, Os, rvs, A, _, S1.allocH _ hT, p1.step s2, e3, fun Hf2 H2 σ2 Os2 S2 s3 => q Hf2 H2 σ2 Os2 S2 (s3.toS (st1.trans s2) f1)⟩
end
end RE
end

section
set_option linter.all false
set_option maxRecDepth 100000
set_option maxHeartbeats 4000000
/-! RE21: names set side by side; unpacking; comprehensions that are set; tables. -/
namespace RE
open PySem PySem.Spec PyProof.Rows L2

section
variable {R : Rc} {env : RE.Env} {σ : L2.St} {Hf H Hf' H' : Hp} {Os : Nat → List Addr}
/-- a name takes what waits first -/
theorem pend_put (S : Sim R env σ Hf H Os) {rv : RV} {rvs : List RV} {v : V} {vs : List V} {A : List Addr} (p : PendA R Hf H Os (rv :: rvs) (v :: vs) A) {i : Nat} (hi : i < env.length) :
    ∃ A2 Os1, Sim R (env.set i (slotOf rv)) (σ.set i (some v)) Hf H Os1 ∧ PendA R Hf H Os1 rvs vs A2 ∧ (∀ j b, b ∈ Os1 j → b ∈ Os j ∨ b ∈ A) ∧ ∀ b ∈ A2, b ∈ A := by
  cases p with
  | val r rest => exact ⟨A, _, S.putV i r, rest.move (Same.refl _) (fun _ _ => rfl) (fun b hb => ⟨(rest.mem b hb).2.1, fun j hj => (rest.mem b hb).2.2 j (if_sub j b hj)⟩), fun j b hb => .inl (if_sub j b hb), fun _ h => h⟩
  | @own o a O _ _ A2 r1 r2 r3 rest =>
    refine ⟨A2, _, S.put i (s := .own _) (O := O) ⟨a, rfl, r1⟩ r2 (fun j _ b hb => (r3 b hb).2.1 j) (fun b hb => (r3 b hb).1) (.inl hi), rest.move (Same.refl _) (fun _ _ => rfl) (fun b hb => ⟨(rest.mem b hb).2.1, fun j hj => ?_⟩), fun j b hb => ?_, fun b hb => List.mem_append_right _ hb⟩
    · split at hj
      · exact (r3 b hj).2.2 hb
      · exact (rest.mem b hb).2.2 j hj
    · split at hb
      · exact .inr (List.mem_append_left _ hb)
      · exact .inl hb
end
section
variable {X : Cx} {fa : Nat → Option Addr} {pr : Nat → Bool} {e a b c o k tg : Expr} {es tgs : List Expr} {st : Stmt} {pos : Pos} {fm : RE.Env → Out (D × RE.Env)} {i j l : Nat} {cl : Cl} {fr : RE.Env → Out (RV × RE.Env)} {frs : RE.Env → Out (List RV × RE.Env)} {ft : RV → RE.Env → Out RE.Env} {fts : List RV → RE.Env → Out RE.Env}
abbrev fName (i : Nat) : RV → RE.Env → Out RE.Env := fun rv env => .ok (env.set i (slotOf rv))
abbrev fNil : List RV → RE.Env → Out RE.Env := fun rvs env => match rvs with
  | [] => .ok env
  | _ => .bad
theorem s_par2 (hp : pr i = false) (hp2 : pr j = false) (hi : i < X.N.length) (hj : j < X.N.length) (p : ∀ {ta}, PA X es ta → PS X st (tPar i j ta)) (ps : PA X es (tRs X fa frs)) :
    PS X st (tS X fa pr fun env => (frs env).bind fun x => (gCons' (fName i) (gCons' (fName j) fNil) x.1 x.2).bind fun env2 => .ok (.nx, env2)) := ⟨fun pins s σ H Z I ⟨env, Hf, Os, fl, env1, S, e, q⟩ => by
  refine (p ps).run pins s σ H Z I ?_
  obtain ⟨⟨rvs, n1⟩, e1, e2⟩ := Out.bind_eq_ok e
  clear e
  obtain ⟨n2, e3, e4⟩ := Out.bind_eq_ok e2
  clear e2
  cases e4
  refine ⟨env, Hf, Os, rvs, n1, S, e1, fun vs A Hf1 H1 S1 st1 p1 f1 => ?_⟩
  have hl : n1.length = X.N.length := by rw [S1.len, I.len]
  rcases rvs with _ | ⟨r1, _ | ⟨r2, _ | ⟨_, _⟩⟩⟩ <;> try (cases e3; done)
  cases e3
  have pl := p1.len
  rcases vs with _ | ⟨v1, _ | ⟨v2, _ | ⟨_, _⟩⟩⟩ <;> try (simp at pl; done)
  obtain ⟨A2, Os1, S2, p2, o1, a1⟩ := pend_put S1 p1 (i := i) (by rw [hl]; exact hi)
  obtain ⟨A3, Os2, S3, p3, o2, a2⟩ := pend_put S2 p2 (i := j) (by rw [List.length_set, hl]; exact hj)
  refine ⟨v1, v2, rfl, q Hf1 H1 _ _ S3 (StpG.toS st1 f1 ⟨Stp.refl _ _ _, fun m b hb => .inl ?_, fun m hm => ?_⟩)⟩
  · rcases o2 m b hb with z | z
    · exact (o1 m b z).imp (fun z => ⟨m, z⟩) id
    · exact .inr (a1 b z)
  · rw [set_ne hp2 m hm, set_ne hp m hm]⟩
theorem s_par3 (hp : pr i = false) (hp2 : pr j = false) (hp3 : pr l = false) (hi : i < X.N.length) (hj : j < X.N.length) (hl : l < X.N.length) (p : ∀ {ta}, PA X es ta → PS X st (tPar3 i j l ta)) (ps : PA X es (tRs X fa frs)) :
    PS X st (tS X fa pr fun env => (frs env).bind fun x => (gCons' (fName i) (gCons' (fName j) (gCons' (fName l) fNil)) x.1 x.2).bind fun env2 => .ok (.nx, env2)) := ⟨fun pins s σ H Z I ⟨env, Hf, Os, fl, env1, S, e, q⟩ => by
  refine (p ps).run pins s σ H Z I ?_
  obtain ⟨⟨rvs, n1⟩, e1, e2⟩ := Out.bind_eq_ok e
  clear e
  obtain ⟨n2, e3, e4⟩ := Out.bind_eq_ok e2
  clear e2
  cases e4
  refine ⟨env, Hf, Os, rvs, n1, S, e1, fun vs A Hf1 H1 S1 st1 p1 f1 => ?_⟩
  have hll : n1.length = X.N.length := by rw [S1.len, I.len]
  rcases rvs with _ | ⟨r1, _ | ⟨r2, _ | ⟨r3, _ | ⟨_, _⟩⟩⟩⟩ <;> try (cases e3; done)
  cases e3
  have pl := p1.len
  rcases vs with _ | ⟨v1, _ | ⟨v2, _ | ⟨v3, _ | ⟨_, _⟩⟩⟩⟩ <;> try (simp at pl; done)
  obtain ⟨A2, Os1, S2, p2, o1, a1⟩ := pend_put S1 p1 (i := i) (by rw [hll]; exact hi)
  obtain ⟨A3, Os2, S3, p3, o2, a2⟩ := pend_put S2 p2 (i := j) (by rw [List.length_set, hll]; exact hj)
  obtain ⟨A4, Os3, S4, p4, o3, a3⟩ := pend_put S3 p3 (i := l) (by rw [List.length_set, List.length_set, hll]; exact hl)
  refine ⟨v1, v2, v3, rfl, q Hf1 H1 _ _ S4 (StpG.toS st1 f1 ⟨Stp.refl _ _ _, fun m b hb => .inl ?_, fun m hm => ?_⟩)⟩
  · rcases o3 m b hb with z | z
    · rcases o2 m b z with z | z
      · exact (o1 m b z).imp (fun z => ⟨m, z⟩) id
      · exact .inr (a1 b z)
    · exact .inr (a1 b (a2 b z))
  · rw [set_ne hp3 m hm, set_ne hp2 m hm, set_ne hp m hm]⟩
/-- a, b = e -/
theorem s_unp {T : Tg} (hp : ∀ i ∈ tgI T, pr i = false) (p : PS X st (tAsg (tM X fa fm) (tG X fa T))) : PS X st (tS X fa pr fun env => (fm env).bind fun x => (bindT T x.1 x.2).bind fun env2 => .ok (.nx, env2)) := PS.imp p fun Z σ H ⟨env, Hf, Os, fl, env1, S, e, q⟩ => by
  obtain ⟨⟨d, n1⟩, e1, e2⟩ := Out.bind_eq_ok e
  clear e
  obtain ⟨n2, e3, e4⟩ := Out.bind_eq_ok e2
  clear e2
  cases e4
  refine ⟨env, Hf, Os, d, n1, S, e1, fun v Hf1 H1 S1 st1 r1 => ⟨n1, Hf1, Os, d, _, S1, r1, e3, fun σ2 Os2 S2 hs2 hw2 => q Hf1 H1 σ2 Os2 S2 ((StpS.of st1).trans (.sub hs2 fun j hj => ?_))⟩⟩
  have hj' : j ∉ tgI T := fun z => by rw [hp j z] at hj; cases hj
  rw [← wipe_out (σ := σ2) hj', hw2 _ (fun _ h => h), wipe_out hj']

/-! ### a comprehension is set -/
theorem tF_mono {ff : RE.Env → Out (List D)} {σ : L2.St} {H : Hp} {Q Q' : VK} (h : tF X fa ff σ H Q) (i : ∀ v H, Q v H → Q' v H) : tF X fa ff σ H Q' := by
  obtain ⟨env, Hf, Os, ds, S, e, q⟩ := h
  exact ⟨env, Hf, Os, ds, S, e, fun p vs Hf1 H1 S1 st1 n nf eh r no => i _ _ (q p vs Hf1 H1 S1 st1 n nf eh r no)⟩
theorem gt_nameI {v : V} {σ : L2.St} {H : Hp} {Q : L2.St → Hp → Prop} (hp : pr i = false) (hi : i < σ.length) (h : tGt X fa pr (fName i) v σ H Q) : gName i v σ H Q := by
  obtain ⟨env, Hf, Os, rv, A, env1, S, p, e, q⟩ := h
  cases e
  have hi' : i < env.length := by rw [S.len]; exact hi
  obtain ⟨A2, Os1, S1, p1, o1, a1⟩ := pend_put S p hi'
  exact q Hf H _ _ S1 ⟨Stp.refl _ _ _, fun j b hb => .inl ((o1 j b hb).imp (fun z => ⟨j, z⟩) id), set_ne hp⟩
theorem r_newI {ff : RE.Env → Out (List D)} {σ : L2.St} {H : Hp} {Q : VK} (h : tR X fa (rVal (mPur fun env => (ff env).bind fun ds => .ok (.lst ds))) σ H Q) : tF X fa ff σ H Q := by
  obtain ⟨env, Hf, Os, d, env1, S, e, q⟩ := r_valI h
  obtain ⟨d1, e1, e2⟩ := Out.bind_eq_ok e
  cases e2
  obtain ⟨ds, e3, e4⟩ := Out.bind_eq_ok e1
  cases e4
  exact ⟨env, Hf, Os, ds, S, e3, q.aft.ofF⟩
/-- .. by the form that has its own rule -/
theorem asg_lc {ff : RE.Env → Out (List D)} {te : TE} (hp : pr i = false) (hi : i < X.N.length) (p : PS X st (tAsg te (gName i))) (ht : ∀ σ H Q, tF X fa ff σ H Q → te σ H Q) (hr : ∀ σ H Q, tR X fa fr σ H Q → tF X fa ff σ H Q) : PS X st (tAsg (tR X fa fr) (tGt X fa pr (fName i))) :=
  ⟨fun pins s σ H Z I h => p.run pins s σ H Z I (ht _ _ _ (tF_mono (hr _ _ _ h) fun v H g => gt_nameI hp (by rw [I.len]; exact hi) g))⟩

/-! ### a table of fresh lists -/
def tFF (X : Cx) (fa : Nat → Option Addr) (f : RE.Env → Out (List (List D))) : TE := fun σ H Q => ∃ env Hf Os dss, Sim (rc X fa) env σ Hf H Os ∧ f env = .ok dss ∧ ∀ p as Hf' H', Sim (rc X fa) env σ Hf' H' Os → Stp W0 Hf H Hf' H' →
  OwnAt (rc X fa) Hf' H' (.lls dss) p (p :: as) → (p :: as).Nodup → (∀ b ∈ p :: as, H b = none ∧ Hf' b = none ∧ ∀ j, b ∉ Os j) → Q (.ref p) H'
abbrev fBodyF (ef : RE.Env → Out (List D)) (tg : Tg) (own : List Nat) (env : RE.Env) : D → Out (List (List D)) := fun x => (bindT tg x (wipeS env own)).bind fun env1 => (ef env1).bind fun ds => .ok [ds]
theorem paired_snoc {α β : Type} {F : α → β → Prop} : ∀ {l : List α} {m : List β} {a : α} {b : β}, Paired F l m → F a b → Paired F (l ++ [a]) (m ++ [b])
  | _, _, _, _, .nil, h => .cons h .nil
  | _, _, _, _, .cons r t, h => .cons r (paired_snoc t h)
theorem ll_imp {T : Tg} {own : List Nat} {sf : RE.Env → Out (List D)} {ef : RE.Env → Out (List D)} (ht : ∀ i ∈ tgI T, i ∈ own) {σ : L2.St} {H : Hp} {Q : VK} (h : tFF X fa (fun env => (sf env).bind fun items => chk (inLim items.length) (mapO (fBodyF ef T own env) items)) σ H Q) :
    tLc (tIL X fa sf) (tG X fa T) (tT X fa fun _ => .ok (.bl true)) (tF X fa ef) own σ H Q := by
  obtain ⟨env, Hf, Os, out, S, e, q⟩ := h
  obtain ⟨items, e1, e⟩ := Out.bind_eq_ok e
  obtain ⟨hz, e⟩ := chk_eq_ok e
  have hz := inLim_lt hz
  refine ⟨env, Hf, Os, items, S, e1, fun J Hf1 H1 S1 st1 F L hL => ?_⟩
  have nn1 : ∀ x, H1 x = none → H x = none := fun x h => by
    cases e : H x with
    | none => rfl
    | some o => exact absurd h (st1.st x (by rw [e]; exact fun z => nomatch z))
  have hLf : Hf1 L = none := S1.sub.none hL
  have hLo : ∀ i, L ∉ Os i := fun i hi => S1.there hi hL
  clear S e1
  refine ⟨fun i m H2 => m = items.length - i ∧ i ≤ items.length ∧ ∃ Hf2 as done rest, Sim (rc X fa) env σ Hf2 H2 Os ∧ Stp W0 Hf1 H1 Hf2 H2 ∧ H2 L = some (.lst (as.map V.ref)) ∧ Paired (fun b ds => ∃ vs, H2 b = some (.lst vs) ∧ RpA (rc X fa) Hf2 vs ds) as done ∧ (L :: as).Nodup ∧ (∀ b ∈ L :: as, H1 b = none ∧ Hf2 b = none ∧ ∀ j, b ∉ Os j) ∧ as.length ≤ i ∧ mapO (fBodyF ef T own env) (items.drop i) = .ok rest ∧ out = done ++ rest,
    ⟨items.length, by simp, Nat.zero_le _, Hf1, [], [], out, S1.allocH _ hL, Stp.allocH _ hL _, upd_same, .nil, List.nodup_cons.mpr ⟨List.not_mem_nil, List.nodup_nil⟩, fun b hb => by rw [List.mem_singleton.mp hb]; exact ⟨hL, hLf, hLo⟩, Nat.le_refl _, e, rfl⟩, ?_⟩
  rintro i m H2 ⟨rfl, hi, Hf2, as, done, rest, S2, st2, hH, hp, nd, fr, hacc, hr, ho⟩
  have c2 : Same Hf1 Hf2 ∧ Same H1 H2 := ⟨st2.fr, st2.same⟩
  by_cases hlt : i < items.length
  · have hd : items.drop i = items[i] :: items.drop (i + 1) := List.drop_eq_getElem_cons hlt
    rw [hd] at hr
    obtain ⟨ys, b1, hr⟩ := Out.bind_eq_ok hr
    obtain ⟨zs, b2, hr⟩ := Out.bind_eq_ok hr
    cases hr
    obtain ⟨env1, t1, b1⟩ := Out.bind_eq_ok b1
    obtain ⟨ds, t2, b1⟩ := Out.bind_eq_ok b1
    cases b1
    obtain ⟨go, nx⟩ := F.next env σ Hf2 H2 Os i items[i] c2 S2 (by simp [hlt])
    refine .inr ⟨go, fun H' => ∃ Hf2 as, Sim (rc X fa) env σ Hf2 H' Os ∧ Stp W0 Hf1 H1 Hf2 H' ∧ H' L = some (.lst (as.map V.ref)) ∧ Paired (fun b ds => ∃ vs, H' b = some (.lst vs) ∧ RpA (rc X fa) Hf2 vs ds) as (done ++ [ds]) ∧ (L :: as).Nodup ∧ (∀ b ∈ L :: as, H1 b = none ∧ Hf2 b = none ∧ ∀ j, b ∉ Os j) ∧ as.length ≤ i + 1, fun H' ⟨Hf3, as3, S3, st3, h3, f3, r3, g3, l3⟩ => ⟨items.length - (i + 1), by omega, rfl, hlt, Hf3, as3, done ++ [ds], zs, S3, st3, h3, f3, r3, g3, l3, b2, by rw [ho, List.append_assoc]⟩, fun x H3 y => ?_⟩
    obtain ⟨Hf3, S3, st3, rx⟩ := nx x H3 y
    obtain ⟨Osw, Sw, hsub⟩ := S3.wipe own
    refine ⟨_, Hf3, Osw, items[i], env1, Sw, rx, t1, fun σ4 Os4 S4 hs4 hw4 => ⟨(hw4 own ht).trans (wipe_wipe σ own), ?_⟩⟩
    refine ⟨env1, Hf3, Os4, _, _, S4, rfl, rfl, fun Hf5 H5 S5 st5 => (if_pos rfl : _ = _).mpr ?_⟩
    refine ⟨env1, Hf5, Os4, ds, S5, t2, fun p vs Hf6 H6 S6 st6 n6 nf6 eh6 r6 no6 => ?_⟩
    have s5 := st3.trans st5
    have s6 := s5.trans st6
    have So := S3.step S6.sub (st5.trans st6)
    have stay : ∀ b ∈ L :: as, ∀ o, H2 b = some o → H6 b = some o ∧ Hf6 b = none ∧ b ≠ p := fun b hb o eb => by
      refine ⟨s6.same b o eb, ?_, fun z => ?_⟩
      · cases ee : Hf6 b with
        | none => rfl
        | some w =>
          rcases s6.nw b (fr b hb).2.1 (by rw [ee]; exact fun z => nomatch z) with z | z
          · rw [eb] at z; cases z
          · exact z.elim
      · have := s5.same b o eb
        rw [z] at this
        rw [this] at n6; cases n6
    obtain ⟨hL6, hLf6, hLp⟩ := stay L List.mem_cons_self _ hH
    have np2 : ∀ x, H5 x = none → H1 x = none := fun x h => by
      cases e : H1 x with
      | none => rfl
      | some o => rw [(st2.trans s5).same x o e] at h; cases h
    have npO : ∀ j, p ∉ Os j := fun j hj => by
      have := S3.there hj
      cases e : H3 p with
      | none => exact this e
      | some o => rw [st5.same p o e] at n6; cases n6
    refine ⟨as.map V.ref, hL6, by rw [List.length_map]; exact Nat.lt_of_le_of_lt hacc (Nat.lt_of_lt_of_le hlt hz), Hf6, as ++ [p], ?_, ?_, by rw [upd_same, List.map_append]; rfl, ?_, ?_, ?_, by simp; omega⟩
    · refine So.mono (Same.refl _) (fun a o ea => ?_) (fun j b hb => upd_ne fun z => hLo j (by rw [← z]; exact hb)) So.new
      rw [upd_ne (fun z => by rw [z, hLf6] at ea; cases ea)]
      exact So.sub a o ea
    · have s := st2.trans s6
      refine ⟨s.fr, fun b o eb nb => ?_, s.nw, fun b nb => ?_⟩
      · rw [upd_ne (fun z => by rw [z, hL] at eb; cases eb)]
        exact s.kp b o eb nb
      · rw [upd_ne (fun z => nb (by rw [z]; exact hL))]
        exact s.st b nb
    · refine paired_snoc (paired_imp (fun b hb ds' ⟨ws, w1, w2⟩ => ⟨ws, ?_, w2.sub (sameSub s6.fr)⟩) hp) ⟨vs, by rw [upd_ne hLp.symm]; exact eh6, r6⟩
      rw [upd_ne fun z => (List.nodup_cons.mp nd).1 (by rw [← z]; exact hb)]
      exact s6.same b _ w1
    · have h1 := List.nodup_cons.mp nd
      refine List.nodup_cons.mpr ⟨fun z => ?_, List.nodup_append.mpr ⟨h1.2, List.nodup_cons.mpr ⟨List.not_mem_nil, List.nodup_nil⟩, fun x hx y hy => ?_⟩⟩
      · rcases List.mem_append.mp z with z | z
        · exact h1.1 z
        · exact hLp (List.mem_singleton.mp z)
      · rw [List.mem_singleton.mp hy]
        obtain ⟨_, ws, w1, _⟩ := paired_left hp x hx
        exact (stay x (List.mem_cons_of_mem _ hx) _ w1).2.2
    · intro b hb
      have : b = L ∨ b ∈ as ∨ b = p := by
        rcases List.mem_cons.mp hb with z | z
        · exact .inl z
        · rcases List.mem_append.mp z with z | z
          · exact .inr (.inl z)
          · exact .inr (.inr (List.mem_singleton.mp z))
      rcases this with z | z | z
      · rw [z]; exact ⟨hL, hLf6, hLo⟩
      · obtain ⟨_, ws, w1, _⟩ := paired_left hp b z
        exact ⟨(fr b (List.mem_cons_of_mem _ z)).1, (stay b (List.mem_cons_of_mem _ z) _ w1).2.1, (fr b (List.mem_cons_of_mem _ z)).2.2⟩
      · rw [z]; exact ⟨np2 p n6, nf6, npO⟩
  · have ei : i = items.length := by omega
    subst ei
    rw [List.drop_length] at hr
    cases hr
    rw [List.append_nil] at ho
    subst ho
    exact .inl ⟨F.stop Hf2 H2 _ c2 S2.sub (Nat.le_refl _), q L as Hf2 H2 S2 (st1.trans st2) ⟨as, rfl, hH, hp⟩ nd fun b hb => ⟨nn1 b (fr b hb).1, (fr b hb).2⟩⟩
/-- name = [[..] for ..] -/
theorem s_setLL {ff : RE.Env → Out (List (List D))} {te : TE} (hp : pr i = false) (hi : i < X.N.length) (p : PS X st (tAsg te (gName i))) (ht : ∀ σ H Q, tFF X fa ff σ H Q → te σ H Q) : PS X st (tS X fa pr fun env => (ff env).bind fun dss => .ok (.nx, env.set i (.own (.lls dss)))) :=
  ⟨fun pins s σ H Z I ⟨env, Hf, Os, fl, env1, S, e, q⟩ => p.run pins s σ H Z I (ht _ _ _ (by
    obtain ⟨dss, e1, e2⟩ := Out.bind_eq_ok e
    cases e2
    refine ⟨env, Hf, Os, dss, S, e1, fun p as Hf1 H1 S1 st1 ow nd fr => ?_⟩
    have hi' : i < env.length := by rw [S.len, I.len]; exact hi
    exact q Hf1 H1 _ _ (S1.put i (s := .own _) (O := p :: as) ⟨p, rfl, ow⟩ nd (fun j _ b hb => (fr b hb).2.2 j) (fun b hb => (fr b hb).2.1) (.inl hi')) (.new hp st1.w0 fun b hb => (fr b hb).1)))⟩
end
end RE
end

section
set_option linter.all false
set_option maxRecDepth 100000
set_option maxHeartbeats 4000000
/-! RE22: fresh lists by operations; sorted; d.get; len(set(..)); displays. -/
namespace RE
open PySem PySem.Spec PyProof.Rows L2

section
variable {X : Cx} {fa : Nat → Option Addr} {e a b c o k x : Expr} {es : List Expr} {pos apos cpos p0 p1 : Pos} {f g h : RE.Env → Out D}
/-! ### fresh lists -/
def rF2 (X : Cx) (fa : Nat → Option Addr) (go : D → D → Out (List D)) : R2 := fun x y H Q => ∃ env σ Hf Os d1 d2 ds, Sim (rc X fa) env σ Hf H Os ∧ Ld (rc X fa) Hf H x d1 ∧ Ld (rc X fa) Hf H y d2 ∧ go d1 d2 = .ok ds ∧ AftF (rc X fa) env σ Hf H Os ds Q
theorem op_catF : OpR X (binaryOp .Add) (rF2 X fa fCat) := by
  refine OpR.imp op_catL ?_
  rintro x y H Q ⟨env, σ, Hf, Os, d1, d2, d, S, l1, l2, e, q⟩
  cases d1 <;> cases d2 <;> try (cases e; done)
  obtain ⟨h, e⟩ := chk_eq_ok e
  cases e
  obtain ⟨a, vs, rfl, ha, ra⟩ := l1.lst' S.sub
  obtain ⟨b, us, rfl, hb, rb⟩ := l2.lst' S.sub
  exact ⟨a, b, vs, us, rfl, rfl, ha, hb, by rw [ra.length, rb.length]; exact inLim_le h, fun p n => q.new S (ra.append rb) n⟩
theorem op_repF : OpR X (binaryOp .Mult) (rF2 X fa fRep) := by
  refine OpR.imp op_repL ?_
  rintro x y H Q ⟨env, σ, Hf, Os, d1, d2, d, S, l1, l2, e, q⟩
  cases d1 <;> cases d2 <;> try (cases e; done)
  obtain ⟨h, e⟩ := chk_eq_ok e
  cases e
  obtain ⟨h1, h2⟩ := Bool.and_eq_true_iff.mp h
  obtain ⟨a, vs, rfl, ha, ra⟩ := l1.lst' S.sub
  exact ⟨a, _, vs, rfl, l2.int, ha, h1, by rw [ra.length]; exact inLim_le h2, fun p n => q.new S ra.flat n⟩
theorem pf_bin {o : Operator} {go : D → D → Out (List D)} (ho : OpR X (binaryOp o) (rF2 X fa go)) (p : PE X a (tL X fa f)) (p' : PE X b (tL X fa g)) : PE X (.BinOp a o b pos) (tF X fa fun env => (f env).bind fun x => (g env).bind fun y => go x y) :=
  PE.imp (pe_op ho p p') fun σ H Q ⟨env, Hf, Os, d, S, e, q⟩ => by
    obtain ⟨d1, e1, e⟩ := Out.bind_eq_ok e
    obtain ⟨d2, e2, e⟩ := Out.bind_eq_ok e
    exact ⟨env, Hf, Os, d1, S, e1, fun v Hf1 H1 S1 st1 r1 => ⟨env, Hf1, Os, d2, S1, e2, fun u Hf2 H2 S2 st2 r2 => ⟨env, σ, Hf2, Os, d1, d2, d, S2, r1.mono st2.fr st2.same, r2, e, q.move (st1.trans st2)⟩⟩⟩

/-! ### sorted -/
theorem leD_total : PySem.W.TotalLe leD := by
  have h : leD = PySem.W.dataLe false pd := by
    funext a b
    rw [PySem.W.dataLe_eq]
    rfl
  rw [h]
  exact PySem.W.sortLe_total _ _ _
theorem ins_eq {x : D} : ∀ {l1 l2 : List D}, (∀ b ∈ l1, leD x b = false) → (l1 ++ x :: l2).Pairwise (fun a b => leD a b = true) → ins x (l1 ++ l2) = l1 ++ x :: l2
  | [], [], _, _ => rfl
  | [], y :: r, _, p => by
    have hp := List.pairwise_cons.mp p
    show ins x (y :: r) = x :: y :: r
    unfold ins
    rw [hp.1 y List.mem_cons_self]
  | y :: l1, l2, h, p => by
    show ins x (y :: (l1 ++ l2)) = y :: (l1 ++ x :: l2)
    unfold ins
    rw [h y List.mem_cons_self]
    dsimp only
    rw [ins_eq (fun b hb => h b (List.mem_cons_of_mem _ hb)) (List.pairwise_cons.mp p).2]
theorem isort_eq : ∀ xs : List D, isort xs = xs.mergeSort leD
  | [] => by rw [List.mergeSort_nil]; rfl
  | x :: xs => by
    obtain ⟨l1, l2, h1, h2, h3⟩ := List.mergeSort_cons (le := leD) (fun a b c => leD_total.trans a b c) (fun a b => by simpa [Bool.or_eq_true] using leD_total.total a b) x xs
    unfold isort
    rw [isort_eq xs, h2, h1]
    refine ins_eq (fun b hb => by simpa using h3 b hb) ?_
    rw [← h1]
    exact List.pairwise_mergeSort (fun a b c => leD_total.trans a b c) (fun a b => by simpa [Bool.or_eq_true] using leD_total.total a b) _
theorem sort_mem {xs : List D} (d : D) : d ∈ isort xs ↔ d ∈ xs := by rw [isort_eq]; exact List.mem_mergeSort
theorem call_sortedD' (hu : X.A.units + 66 < cLine) : CallR X (.builtin "sorted") (rF1 X fa fSorted) := by
  intro pins s σ' H vs us Q I r h
  obtain ⟨x, env, σ, Hf, Os, d1, ds, rfl, S, l1, e, q⟩ := h
  cases d1 <;> try (cases e; done)
  rename_i xs
  obtain ⟨hs, e⟩ := chk_eq_ok e
  cases e
  unfold sortable at hs
  simp only [Bool.and_eq_true, Bool.or_eq_true, List.all_eq_true] at hs
  obtain ⟨⟨⟨hz, hshp⟩, hk⟩, hal⟩ := hs
  obtain ⟨a, ws, rfl, ha, ra⟩ := l1.lst' S.sub
  obtain ⟨its, rv, hl, hzz⟩ := I.list (.inl ha)
  rw [Vals.ref1 r]
  have each : ∀ {ws : List V} {its : List Value} {xs : List D}, RpA (rc X fa) Hf ws xs → Vals ws its → PySem.W.EachIs (fun u d => ∃ v, RelV v u ∧ Rp (rc X fa) Hf v d) its xs := by
    intro ws
    induction ws with
    | nil => intro its xs h1 h2; cases h1; cases h2; exact .nil
    | cons w ws ih => intro its xs h1 h2; cases h1 with | cons a b => cases h2 with | cons c d => exact .cons ⟨w, c, a⟩ (ih b d)
  have eachR : ∀ {ws : List V} {its : List Value} {xs : List D}, (∀ d ∈ xs, shp 64 d = true) → RpA (rc X fa) Hf ws xs → Vals ws its → PySem.W.EachIs (fun u d => ∃ as, Reads s.heap u (pd d) as) its xs := by
    intro ws
    induction ws with
    | nil => intro its xs _ h1 h2; cases h1; cases h2; exact .nil
    | cons w ws ih =>
      intro its xs hsh h1 h2
      cases h1 with
      | cons a b =>
        cases h2 with
        | cons c d => exact .cons (Dp.reads I _ _ _ (pd_dp 64 (hsh _ List.mem_cons_self) (a.sub S.sub)) c) (ih (fun d hd => hsh d (List.mem_cons_of_mem _ hd)) b d)
  refine PySem.W.sorted_data (enc := pd) (bs := xs) hl.isList (each ra rv) (eachR hshp ra rv) (fun d hd d' hd' => ?_) ?_ (inLim_le hz) (fun d hd => ?_) fun out ho hout => ?_
  · obtain ⟨y, hy, rfl⟩ := List.mem_map.mp hd
    obtain ⟨y', hy', rfl⟩ := List.mem_map.mp hd'
    exact hal y hy y' hy'
  · rcases hk with hk | hk
    · refine .inl fun d hd => ?_
      obtain ⟨y, hy, rfl⟩ := List.mem_map.mp hd
      have := hk y hy
      cases y <;> try (cases this; done)
      rename_i zs
      cases zs with
      | nil => cases this
      | cons z r => exact ⟨pd z, pds r, by rw [pd, pds]⟩
    · refine .inr fun d hd => ?_
      obtain ⟨y, hy, rfl⟩ := List.mem_map.mp hd
      have h1 := hk y hy
      have h2 := hshp y hy
      cases y <;> first | (cases h1; done) | (simp [shp] at h2; done) | (constructor <;> (intros; rw [pd]; intro z; cases z))
  · have := (shp_lay 64 d (hshp d hd)).2
    omega
  · have e2 : PySem.W.dataLe false pd = leD := by
      funext a b
      rw [PySem.W.dataLe_eq]
      rfl
    rw [e2, ← isort_eq] at hout
    have back : ∀ {us : List Value} {ys : List D}, PySem.W.EachIs (fun u d => ∃ v, RelV v u ∧ Rp (rc X fa) Hf v d) us ys → ∃ vs, Vals vs us ∧ RpA (rc X fa) Hf vs ys := by
      intro us ys h
      induction h with
      | nil => exact ⟨[], .nil, .nil⟩
      | cons r _ ih =>
        obtain ⟨v, r1, r2⟩ := r
        obtain ⟨vs, h1, h2⟩ := ih
        exact ⟨v :: vs, .cons r1 h1, .cons r2 h2⟩
    obtain ⟨ws', rv', ra'⟩ := back hout
    obtain ⟨ep, he'⟩ := PyProof.Rows.sortedAll_at s.heap its out.toArray
    have hlen : ws'.length ≤ sizeLine := by rw [rv'.length, ho]; exact inLim_le hz
    exact ⟨.ref _, upd H (s.heap.objs.size + 1) (.lst ws'), I.laid (t' := s.toks) (fun _ _ => PyProof.Rows.sortedAll_old) (Nat.le_succ _) ⟨hlen, out, ep, rv', he'⟩, rfl, q.new S ra' (I.hok.fresh (Nat.le_succ _))⟩

/-! ### len(set([..])) -/
theorem firstMet_dedup (ns : List Int) : firstMet (fun i => ns.getD i 0) ns.length = dedup ns := by
  unfold firstMet
  have : (List.range ns.length).map (fun i => ns.getD i 0) = ns := by
    apply List.ext_getElem?
    intro i
    rw [List.getElem?_map]
    by_cases h : i < ns.length
    · rw [List.getElem?_range h, List.getElem?_eq_getElem h]
      simp [h]
    · rw [List.getElem?_eq_none (by simpa using h), List.getElem?_eq_none (by simpa using h)]
      rfl
  rw [this]
  rfl
theorem pp_lenset (hg : Gl X "len") (hm : X.mg "len" = none) (hg2 : Gl X "set") (hm2 : X.mg "set" = none) (ha : PE X a (tL X fa f)) (hc : X.calm = true) (na : starEach [a] X.env = (false, eval a X.env) :: starEach [] X.env) {p2 q : Pos}
    (nb : starEach [.Call (.Name "set" p2) [a] [] q] X.env = (false, eval (.Call (.Name "set" p2) [a] [] q) X.env) :: starEach [] X.env) : PE X (.Call (.Name "len" p0) [.Call (.Name "set" p2) [a] [] q] [] pos) (tP X fa fun env => (f env).bind opLenset) := by
  refine ⟨fun pins s σ H Q I h => ?_⟩
  obtain ⟨env, Hf, Os, d, S, e, q⟩ := h
  obtain ⟨d1, e1, e⟩ := Out.bind_eq_ok e
  refine Call_ (ld_blt I hg hm boot_len ?_)
  refine PyProof.Rows.callWith_builtin1 (PyProof.Rows.args_cons ?_ nb) nb rfl
  refine Call_ (ld_blt I hg2 hm2 boot_set ?_)
  refine PyProof.Rows.callWith_type1 (PyProof.Rows.args_cons (thn (ha.run pins s σ H (fun x H1 => ∃ Hf1, Sim (rc X fa) env σ Hf1 H1 Os ∧ Stp W0 Hf H Hf1 H1 ∧ Ld (rc X fa) Hf1 H1 x d1) I ⟨env, Hf, Os, d1, S, e1, fun v Hf1 H1 S1 st1 r1 => ⟨Hf1, S1, st1, r1⟩⟩) fun v s1 ⟨x, H1, I1, r1, q1⟩ => PyProof.Rows.args_nil ?_) na) na rfl
  obtain ⟨Hf1, S1, st1, l1⟩ := q1
  cases d1 <;> try (cases e; done)
  rename_i xs
  obtain ⟨ns, e2, e⟩ := Out.bind_eq_ok e
  obtain ⟨hl, e⟩ := chk_eq_ok e
  cases e
  have hl := of_decide_eq_true hl
  obtain ⟨l, vs, rfl, ha, ra⟩ := l1.lst' S1.sub
  obtain rfl := ra.ints (ofO_eq_ok e2)
  cases r1
  obtain ⟨its, r, pl, hz⟩ := I1.list (.inl ha)
  have hlen : its.toArray.size = ns.length := by rw [List.size_toArray, ← r.length, List.length_map]
  refine call_set_list (I1.ok.hd hc) pl.isList (by simpa using RZ.intsAre_vals r) (by rw [hlen]; unfold scanBound; omega) fun h' tk hS hk => ?_
  refine PyProof.Rows.args_nil ?_
  rw [hlen, firstMet_dedup] at hS
  obtain ⟨o, es, ep, t, ho, hex, hd, _, _, _, hf, hn⟩ := hS
  have I2 : Inv X pins σ H1 { s1 with heap := h', toks := tk } := I1.kept fun b o e => hk b o (Heap.lt_size e) e
  have hdl : (dedup ns).length ≤ ns.length := by rw [← firstMet_dedup]; exact firstMet_length_le _ _
  exact call_len_set ho hex hd hf (by rw [hn] <;> omega) ⟨.int (dedup ns).length, H1, I2.tok _, ⟨_, by rw [hn]⟩, (q.move st1).flat S1 (.int _)⟩

/-! ### d.get(k, x) -/
theorem isD_ld {pins : List (Addr × Obj)} {σ σ' : L2.St} {H : Hp} {s : Shared} {env : RE.Env} {Hf : Hp} {Os : Nat → List Addr} {a : Addr} {t : Bool} {kvs : List (D × D)} (I : Inv X pins σ H s) (S : Sim (rc X fa) env σ' Hf H Os) (l : Ld (rc X fa) Hf H (.ref a) (.dic t kvs)) :
    s.TypeIs (.ref a) "dict" ∧ ∀ b, Value.ref a = .ref b → ∃ ob, s.heap.get? b = some ob ∧ ob.dict = none := by
  cases t with
  | false =>
    obtain ⟨a', ks, e, hd, _⟩ := l.dK' S.sub
    cases e
    obtain ⟨h1, h2, _⟩ := isD_at I (.inl ⟨ks, hd⟩)
    exact ⟨h1, h2⟩
  | true =>
    obtain ⟨a', ks, e, hd, r, n⟩ := l.dT' S.sub
    cases e
    obtain ⟨⟨o, ep, ho, hx, hdd, hz, hm⟩, _, _⟩ := hd.ok I.hok
    refine ⟨⟨o, ho, hx.1⟩, fun b e => ?_⟩
    cases e
    exact ⟨o, ho, hx.2.1⟩
theorem pp_get2 (hu : X.A.units + 65 < cLine) (po : PE X o (tL X fa f)) (pk : PE X k (tP X fa g)) (px : PE X x (tP X fa h)) (m : M2 X o "get" apos k x cpos) : PE X (.Call (.Attribute o "get" apos) [k, x] [] cpos) (tP X fa fun env => (f env).bind fun a => (g env).bind fun b => (h env).bind fun c => opGet2 a b c) := by
  refine ⟨fun pins s σ H Q I hh => ?_⟩
  obtain ⟨env, Hf, Os, d, S, e, q⟩ := hh
  obtain ⟨d1, e1, e5⟩ := Out.bind_eq_ok e
  clear e
  obtain ⟨d2, e2, e6⟩ := Out.bind_eq_ok e5
  clear e5
  obtain ⟨d3, e3, e7⟩ := Out.bind_eq_ok e6
  clear e6
  obtain ⟨t, kvs, rfl⟩ : ∃ t kvs, d1 = .dic t kvs := by cases d1 <;> first | exact ⟨_, _, rfl⟩ | cases e7
  obtain ⟨hk, e8⟩ := chk_eq_ok e7
  clear e7
  cases e8
  refine wpAny_Call_method m.base m.few m.line PySem.F.plainAttrs_dict PySem.F.slot_dict_get PySem.F.type_dict_get (thn (po.run pins s σ H (fun x H1 => ∃ Hf1, Sim (rc X fa) env σ Hf1 H1 Os ∧ Stp W0 Hf H Hf1 H1 ∧ Ld (rc X fa) Hf1 H1 x (.dic t kvs)) I ⟨env, Hf, Os, _, S, e1, fun v Hf1 H1 S1 st1 r1 => ⟨Hf1, S1, st1, r1⟩⟩) fun u s1 ⟨v1, H1, I1, rx, Hf1, S1, st1, l1⟩ => ?_)
  obtain ⟨a, rfl⟩ : ∃ a, v1 = .ref a := by
    cases t with
    | false => obtain ⟨a, _, e, _⟩ := l1.dK' S1.sub; exact ⟨a, e⟩
    | true => obtain ⟨a, _, e, _⟩ := l1.dT' S1.sub; exact ⟨a, e⟩
  obtain rfl : u = Value.ref a := rx
  obtain ⟨t1, t2⟩ := isD_ld I1 S1 l1
  refine ⟨t1, t2, ?_⟩
  rw [m.trees]
  refine Calls.callWith_builtin rfl (Calls.evalArgs_plain (Calls.spliced_cons (thn (pk.run pins s1 σ H1 (fun x H2 => ∃ Hf2, Sim (rc X fa) env σ Hf2 H2 Os ∧ Stp W0 Hf1 H1 Hf2 H2 ∧ Rp (rc X fa) Hf2 x d2) I1 ⟨env, Hf1, Os, _, S1, e2, fun v Hf2 H2 S2 st2 r2 => ⟨Hf2, S2, st2, r2⟩⟩) fun kv s2 ⟨y, H2, I2, ry, Hf2, S2, st2, r2⟩ =>
    Calls.spliced_cons (thn (px.run pins s2 σ H2 (fun x H3 => ∃ Hf3, Sim (rc X fa) env σ Hf3 H3 Os ∧ Stp W0 Hf2 H2 Hf3 H3 ∧ Rp (rc X fa) Hf3 x d3) I2 ⟨env, Hf2, Os, _, S2, e3, fun v Hf3 H3 S3 st3 r3 => ⟨Hf3, S3, st3, r3⟩⟩) fun xv s3 ⟨z, H3, I3, rz, Hf3, S3, st3, r3⟩ => Calls.spliced_nil ?_))))
  have l3 := (l1.mono st2.fr st2.same).mono st3.fr st3.same
  have r2' := r2.sub (sameSub st3.fr)
  have q' := q.move ((st1.trans st2).trans st3)
  cases t with
  | false =>
    obtain ⟨key, ek, lv⟩ := key_of0 hk
    subst ek
    have ei : y = kV key := lv (Ld.rp (H := H3) r2')
    subst ei
    obtain ⟨a', ks, e, hd, rk⟩ := l3.dK' S3.sub
    cases e
    obtain ⟨w1, w2, _⟩ := look_dK (key := key) rk
    refine d_get2 (by omega) I3 (o := valV ks key) (.inl ⟨ks, key, hd, rfl, rfl⟩) ry rz fun w' s4 I4 rw' => ⟨_, H3, I4, rw', ?_⟩
    cases hl : lookD kvs (kD key) with
    | none => rw [hl] at q'; rw [w2 hl]; exact q'.flat S3 r3
    | some d4 =>
      rw [hl] at q'
      obtain ⟨z4, h4, r4⟩ := w1 _ hl
      rw [h4]
      exact q'.flat S3 r4
  | true =>
    have hk : keyT d2 = true := hk
    obtain ⟨a', L, e, hd, rk, nd⟩ := l3.dT' S3.sub
    cases e
    obtain ⟨b, rfl⟩ : ∃ b, y = .ref b := by
      cases r2' with
      | tup h r => exact ⟨_, rfl⟩
      | _ => cases hk
    cases ry
    obtain ⟨dk, hz, hm, _⟩ := dk_keyed I3 S3.sub hd rk nd
    obtain ⟨w1, w2, _⟩ := look_prs hk rk
    refine getOr_keyed (by show X.A.units + 1 + 8 < cLine; omega) (rp_key I3 hk (r2'.sub S3.sub)) hm dk ?_
    cases hl : lookD kvs d2 with
    | none =>
      rw [hl] at q'
      rw [w2 hl]
      exact ⟨z, H3, I3.tok _, rz, q'.flat S3 r3⟩
    | some d4 =>
      rw [hl] at q'
      obtain ⟨z4, u4, h4, ru, r4⟩ := w1 _ hl
      rw [h4]
      exact ⟨z4, H3, I3.tok _, ru, q'.flat S3 r4⟩
/-! ### {k: v, ..} -/
theorem pairs_ok {env : RE.Env} {σ : L2.St} {Os : Nat → List Addr} : ∀ (fgs : List ((RE.Env → Out D) × (RE.Env → Out D))) {Hf H : Hp} {ds es : List D} {Q : List (V × V) → Hp → Prop}, Sim (rc X fa) env σ Hf H Os → fgs.map (fun p => p.1 env) = ds.map .ok → fgs.map (fun p => p.2 env) = es.map .ok →
    (∀ vs us Hf' H', Sim (rc X fa) env σ Hf' H' Os → Stp W0 Hf H Hf' H' → RpA (rc X fa) Hf' vs ds → RpA (rc X fa) Hf' us es → Q (vs.zip us) H') → tPairs (fgs.map fun p => (tP X fa p.1, tP X fa p.2)) σ H Q
  | [], Hf, H, ds, es, Q, S, h1, h2, q => by
    cases ds with
    | nil => cases es with
      | nil => exact q [] [] Hf H S (Stp.refl _ _ _) .nil .nil
      | cons _ _ => cases h2
    | cons _ _ => cases h1
  | (f, g) :: r, Hf, H, ds, es, Q, S, h1, h2, q => by
    cases ds with
    | nil => cases h1
    | cons d ds =>
      cases es with
      | nil => cases h2
      | cons e es =>
        rw [List.map_cons, List.map_cons] at h1 h2
        injection h1 with a1 a2
        injection h2 with b1 b2
        refine ⟨env, Hf, Os, d, S, a1, fun v Hf1 H1 S1 st1 r1 => ⟨env, Hf1, Os, e, S1, b1, fun u Hf2 H2 S2 st2 r2 => pairs_ok r S2 a2 b2 fun vs us Hf3 H3 S3 st3 r3 r4 => ?_⟩⟩
        exact q (v :: vs) (u :: us) Hf3 H3 S3 ((st1.trans st2).trans st3) (.cons ((r1.sub (sameSub st2.fr)).sub (sameSub st3.fr)) r3) (.cons (r2.sub (sameSub st3.fr)) r4)
theorem merge_rp {R : Rc} {Hf : Hp} : ∀ {vs us : List V} {ds es : List D} {kvs : List (D × D)} {acc : List (Key × V)} {accD : List (D × D)}, RpA R Hf vs ds → RpA R Hf us es → mkDic ds es = .ok kvs → ds.all key0 = true → RpK R Hf acc accD →
    ∃ ks : List (Key × V), vs.zip us = ks.map (fun kv => (kV kv.1, kv.2)) ∧ ks.length = ds.length ∧ RpK R Hf (mergeK acc ks) (putAll accD kvs)
  | _, _, _, _, kvs, acc, accD, .nil, .nil, e, _, r => by cases e; exact ⟨[], rfl, rfl, r⟩
  | _, _, _, _, kvs, acc, accD, .nil, .cons _ _, e, _, r => by cases e
  | _, _, _, _, kvs, acc, accD, .cons _ _, .nil, e, _, r => by cases e
  | _, _, _, _, kvs, acc, accD, .cons (d := d) a1 a2, .cons b1 b2, e, hk, r => by
    obtain ⟨kvs', e1, e2⟩ := Out.bind_eq_ok e
    cases e2
    rw [List.all_cons, Bool.and_eq_true] at hk
    obtain ⟨key, ek, lv⟩ := key_of0 (k := d) hk.1
    subst ek
    have ev : _ = kV key := lv (Ld.rp (H := Hf) a1)
    subst ev
    obtain ⟨ks, h1, h2, h3⟩ := merge_rp a2 b2 e1 hk.2 (r.put (key := key) b1)
    exact ⟨(key, _) :: ks, by rw [List.zip_cons_cons, h1]; rfl, by simp [h2], h3⟩
theorem pp_disp {keys : List (Option Expr)} {values : List Expr} {fgs : List ((RE.Env → Out D) × (RE.Env → Out D))} {fk fv : RE.Env → Out (List D)} (hp : PPs X pos keys values (fgs.map fun p => (tP X fa p.1, tP X fa p.2))) (hall : keys.all (·.isSome) = true) (hl : keys.length = values.length) (h0 : keys ≠ []) (h15 : keys.length ≤ 15)
    (hk : ∀ env ds, fk env = .ok ds → fgs.map (fun p => p.1 env) = ds.map .ok) (hv : ∀ env ds, fv env = .ok ds → fgs.map (fun p => p.2 env) = ds.map .ok) :
    PE X (.Dict keys values pos) (tP X fa fun env => (fk env).bind fun a => (fv env).bind fun b => (mkDic a b).bind fun kvs => chk (a.all key0 && decide (a.length ≤ 15)) (.ok (.dic false (putAll [] kvs)))) := PE.imp (pe_disp hp hall hl h0 h15) fun σ H Q ⟨env, Hf, Os, d, S, e, q⟩ => by
  obtain ⟨ds, e1, e⟩ := Out.bind_eq_ok e
  obtain ⟨es, e2, e⟩ := Out.bind_eq_ok e
  obtain ⟨kvs, e3, e⟩ := Out.bind_eq_ok e
  obtain ⟨hc, e⟩ := chk_eq_ok e
  cases e
  obtain ⟨hc1, hc2⟩ := Bool.and_eq_true_iff.mp hc
  intro p n
  have hnf := S.sub.none n
  have no : ∀ i, p ∉ Os i := fun i hi => S.there hi n
  refine pairs_ok fgs (S.allocH _ n) (hk _ _ e1) (hv _ _ e2) fun vs us Hf1 H1 S1 st1 r1 r2 => ⟨st1.same p _ upd_same, ?_⟩
  obtain ⟨ks, h1, h2, h3⟩ := merge_rp (acc := []) (accD := []) r1 r2 e3 hc1 .nil
  have hp1 : H1 p = some (.dK []) := st1.same p _ upd_same
  have nf1 : Hf1 p = none := by
    cases ee : Hf1 p with
    | none => rfl
    | some o =>
      rcases st1.nw p hnf (by rw [ee]; exact fun z => nomatch z) with z | z
      · rw [upd_same] at z; cases z
      · exact z.elim
  refine ⟨ks, h1, by rw [h2]; exact of_decide_eq_true hc2, ?_⟩
  have sf := same_new (o := HO.dK (mergeK [] ks)) nf1
  have st0 := Stp.allocH (Hf := Hf) (.dK []) n W0
  have st2 := st0.trans st1
  refine q (.ref p) (upd Hf1 p (.dK (mergeK [] ks))) _ (S1.mono sf (fun a o ea => ?_) (fun i b hb => upd_ne fun z => no i (by rw [← z]; exact hb)) fun i a ha => ?_) ⟨st2.fr.trans sf, fun b o eb nb => ?_, fun b nb z => ?_, fun b nb => ?_⟩ (.dK (.inl upd_same) (h3.sub (sameSub sf)))
  · by_cases hap : a = p
    · subst hap; rw [upd_same] at ea ⊢; exact .inl ea
    · rw [upd_ne hap] at ea ⊢; exact S1.sub a o ea
  · rw [upd_ne fun z => no i (by rw [← z]; exact ha)]
    exact S1.new i a ha
  · rw [upd_ne fun z => by rw [z, n] at eb; cases eb]
    exact st2.kp b o eb nb
  · by_cases hb : b = p
    · rw [hb]; exact .inl n
    · rw [upd_ne hb] at z; exact st2.nw b nb z
  · by_cases hb : b = p
    · rw [hb, upd_same]; exact fun z => nomatch z
    · rw [upd_ne hb]; exact st2.st b nb
end
end RE
end

section
set_option linter.all false
set_option maxRecDepth 100000
set_option maxHeartbeats 4000000
/-! RE23: from the text to the small language: expressions. -/
namespace RE
open PySem PySem.Spec PyProof.Rows L2

/-! ### what is known of the text around -/
structure Ct where
  N : List Str
  sc : Scope
  blk : Option Scope
  bl : List Str
  cs : List (Str × D)
  fs : List (Str × Nat × Nat × Nat)
  dt : List Str
  mu : List Nat
  ll : List Nat
  pr : List Nat
def Ct.vis (C : Ct) (x : Str) : Bool := match C.sc.names.lookup x with
  | some .local => true
  | some .cell => true
  | some .free => true
  | _ => false
def Ct.loc (C : Ct) (x : Str) : Bool := match C.sc.names.lookup x with
  | some .local => true
  | some .cell => (match C.blk with | none => true | some s => s.names.lookup x == some .cell)
  | _ => false
def Ct.glb (C : Ct) (x : Str) : Bool := C.sc.names.lookup x == some .globalImplicit
def Ct.ix (C : Ct) (x : Str) : Option Nat := C.N.findIdx? (· == x)
def okN (x : Str) : Bool := x != "__debug__" && x != "__name__" && x != "__classdict__"
def ifO {α : Type} (b : Bool) (x : Option α) : Option α := match b with
  | true => x
  | false => none
theorem ifO_some {α : Type} {b : Bool} {x : Option α} {a : α} (h : ifO b x = some a) : b = true ∧ x = some a := by
  cases b with
  | true => exact ⟨rfl, h⟩
  | false => cases h
theorem obind {α β : Type} {x : Option α} {f : α → Option β} {b : β} (h : x.bind f = some b) : ∃ a, x = some a ∧ f a = some b := Option.bind_eq_some_iff.mp h
theorem omap {α β : Type} {x : Option α} {f : α → β} {b : β} (h : x.map f = some b) : ∃ a, x = some a ∧ f a = b := Option.map_eq_some_iff.mp h
def spK (R : Rc) (cl : Cl) : Nat → Nat → Nat → Sp
  | 0, i, np => spP R cl i np
  | 1, i, np => spI R cl i np
  | _, i, np => spF R cl i np
structure CxOk (C : Ct) (X : Cx) (fa : Nat → Option Addr) (cl : Cl) : Prop where
  N : X.N = C.N
  nd : C.N.Nodup
  sc : X.env.scope = C.sc
  calm : X.calm = true
  un : X.A.units + 66 < cLine
  fn : ∀ x, C.loc x = true → X.fn x = true ∨ X.env.scope.names.lookup x = some .local
  bl : ∀ x ∈ C.bl, X.mg x = none
  cs : ∀ x d, C.cs.lookup x = some d → ∃ v u, X.mg x = some u ∧ RelV v u ∧ ∀ Hf, Rp (rc X fa) Hf v d
  fs : ∀ x k i np, C.fs.lookup x = some (k, i, np) → CallOk X x np (spK (rc X fa) cl k i np)
def Ct.inBlk (C : Ct) (scope : Scope) : Ct := { C with sc := relS scope C.sc, blk := some scope }
section
variable {C : Ct} {X : Cx} {fa : Nat → Option Addr} {cl : Cl}
theorem CxOk.blk (h : CxOk C X fa cl) (scope : Scope) (s : Shared) (H : Hp) (A : Addr) (cells : List (Str × Addr)) (fp : List Addr) : CxOk (C.inBlk scope) (X.blk s H scope (compEnvC scope cells A X.env) fp) fa cl := by
  have e : (compEnvC scope cells A X.env).scope = relS scope C.sc := by rw [← h.sc]; rfl
  refine ⟨h.N, h.nd, e, h.calm, h.un, fun x hx => ?_, h.bl, h.cs, h.fs⟩
  unfold Ct.loc at hx
  show (scope.names.lookup x == some NameKind.cell) = true ∨ (compEnvC scope cells A X.env).scope.names.lookup x = _
  rw [e]
  cases q : (C.inBlk scope).sc.names.lookup x with
  | none => rw [q] at hx; cases hx
  | some k =>
    rw [q] at hx
    cases k with
    | «local» => exact .inr q
    | cell => exact .inl hx
    | _ => cases hx
theorem CxOk.gl (h : CxOk C X fa cl) {x : Str} (hx : C.glb x = true) : Gl X x := by
  show X.env.scope.names.lookup x = _
  rw [h.sc]
  exact eq_of_beq hx
theorem CxOk.vis (h : CxOk C X fa cl) {x : Str} (hx : C.vis x = true) : Vis X.env.scope x := by
  rw [h.sc]
  unfold Ct.vis at hx
  split at hx
  · exact .inl ‹_›
  · exact .inr (.inl ‹_›)
  · exact .inr (.inr ‹_›)
  · cases hx
theorem CxOk.loc (h : CxOk C X fa cl) {x : Str} (hx : C.loc x = true) : Loc X.env.scope x := by
  rw [h.sc]
  unfold Ct.loc at hx
  split at hx
  · exact .inl ‹_›
  · exact .inr ‹_›
  · cases hx
theorem findIdx_get {x : Str} : ∀ {N : List Str} {i : Nat}, N.findIdx? (· == x) = some i → N[i]? = some x := by
  intro N i h
  rw [List.findIdx?_eq_some_iff_getElem] at h
  obtain ⟨h1, h2, _⟩ := h
  rw [List.getElem?_eq_getElem h1]
  exact congrArg some (eq_of_beq h2)
theorem CxOk.ix (h : CxOk C X fa cl) {x : Str} {i : Nat} (hx : C.ix x = some i) : X.N[i]? = some x := by
  rw [h.N]
  exact findIdx_get hx
theorem okN_1 {x : Str} (h : okN x = true) : (x == ("__debug__" : Str)) = false ∧ x ≠ "__name__" ∧ (x == ("__classdict__" : Str)) = false := by
  unfold okN at h
  simp only [Bool.and_eq_true, bne_iff_ne] at h
  exact ⟨beq_eq_false_iff_ne.mpr h.1.1, h.1.2, beq_eq_false_iff_ne.mpr h.2⟩
end

/-! ### shapes -/
def notStar : Expr → Bool
  | .Starred _ _ => false
  | _ => true
theorem star_of {e : Expr} {es : List Expr} {env : PySem.Env} (h : notStar e = true) : starEach (e :: es) env = (false, eval e env) :: starEach es env := by
  cases e <;> first | rfl | (cases h)
theorem starTg {e : Expr} {es : List Expr} {env : PySem.Env} (h : notStar e = true) : assignEach (e :: es) env = (false, assign e env) :: assignEach es env := by
  cases e <;> first | rfl | (cases h)
def noStar (es : List Expr) : Bool := es.all notStar
theorem plain_of {pos : Pos} {env : PySem.Env} : ∀ {es : List Expr}, noStar es = true → (backTo pos (starEach es env)).any (·.1) = false
  | [], _ => rfl
  | e :: es, h => by
    unfold noStar at h
    rw [List.all_cons, Bool.and_eq_true] at h
    rw [star_of h.1]
    show (false || (backTo pos (starEach es env)).any (·.1)) = false
    rw [plain_of h.2]
    rfl
def notSet : Expr → Bool
  | .Set _ _ _ => false
  | _ => true
theorem notSet_in {e : Expr} (h : notSet e = true) (o : CmpOp) : behindInMarks o e = false := by
  cases e <;> first | rfl | (cases h)
theorem notSet_fold {e : Expr} {env : PySem.Env} (h : notSet e = true) : ∀ x, foldedSetIterable e env x = pure x := by
  intro x
  cases e <;> first | rfl | (cases h)
def notSlice : Expr → Bool
  | .Slice _ _ _ _ => false
  | _ => true
theorem plainIx_of {e : Expr} (h : notSlice e = true) : PlainIx e := by
  intro o i
  cases e <;> first | rfl | (cases h)
def notCall0 : Expr → Bool
  | .Call (.Name _ _) [] [] _ => false
  | _ => true
theorem base_of {o : Expr} {m : Str} {env : PySem.Env} {w : Sem Value} (h : notCall0 o = true) : attributeBase o m env w = w := by
  unfold attributeBase
  split
  · cases h
  · rfl
/-- a test that is its value's truth -/
def plainT : Expr → Bool
  | .UnaryOp .Not _ _ => false
  | .BoolOp _ _ _ => false
  | .IfExp _ _ _ _ => false
  | .Compare _ _ _ _ => false
  | _ => true
theorem plainT_of {e : Expr} {env : PySem.Env} (h : plainT e = true) (whole : Sem Value) : isTrue e env whole = (do let v ← whole; standAt e.pos; holding [v] (truthy v)) := by
  cases e <;> first | rfl | (cases h; done) | skip
  rename_i o a p
  cases o <;> first | rfl | cases h

/-! ### operations by name -/
def binO : Operator → Option Op
  | .Add => some .add | .Sub => some .sub | .Mult => some .mul | .FloorDiv => some .fdiv | .Mod => some .mod | .Pow => some .pow
  | .BitAnd => some .band | .BitOr => some .bor | .BitXor => some .xor | .LShift => some .shl | .RShift => some .shr
  | _ => none
def cmpO : CmpOp → Option Op
  | .Eq => some .eq | .NotEq => some .ne | .Lt => some .lt | .LtE => some .le | .Gt => some .gt | .GtE => some .ge | .In => some .isin | .NotIn => some .notin
  | _ => none
def two : Op → Bool
  | .sl _ _ => false | .get2 => false | _ => true
theorem op_two {p : Op} (h : two p = true) (x y : D) : op p [x, y] = op2 p x y := by cases p <;> first | rfl | cases h
theorem op_one {p : Op} (h : two p = true) (x : D) : op p [x] = op1 p x := by cases p <;> first | rfl | cases h
section
variable {X : Cx} {fa : Nat → Option Addr}
theorem binO_ok {o : Operator} {p : Op} (h : binO o = some p) : OpR X (binaryOp o) (r2 X fa (op2 p)) ∧ two p = true := by
  cases o <;> first | (cases h; done) | (cases h; first | exact ⟨op_addD, rfl⟩ | exact ⟨op_subD, rfl⟩ | exact ⟨op_mulD, rfl⟩ | exact ⟨op_fdivD, rfl⟩ | exact ⟨op_modD, rfl⟩ | exact ⟨op_powD, rfl⟩ | exact ⟨op_bandD, rfl⟩ | exact ⟨op_borD, rfl⟩ | exact ⟨op_xorD, rfl⟩ | exact ⟨op_shlD, rfl⟩ | exact ⟨op_shrD, rfl⟩)
theorem opEq_bl {n : Bool} {x y d : D} (h : opEq n x y = .ok d) : ∃ k, d = .bl k := by
  obtain ⟨_, h⟩ := chk_eq_ok h
  cases h
  exact ⟨_, rfl⟩
theorem opI_bl {f : Int → Int → Bool} {x y d : D} (h : op2I (fun i j => .ok (.bl (f i j))) x y = .ok d) : ∃ k, d = .bl k := by
  cases x <;> cases y <;> first | (cases h; done) | (cases h; exact ⟨_, rfl⟩)
theorem opIn_bl {n : Bool} {x y d : D} (h : opIn n x y = .ok d) : ∃ k, d = .bl k := by
  unfold opIn at h
  split at h
  · split at h
    · cases h; exact ⟨_, rfl⟩
    · cases h
  · obtain ⟨_, h⟩ := chk_eq_ok h; cases h; exact ⟨_, rfl⟩
  · obtain ⟨_, h⟩ := chk_eq_ok h; cases h; exact ⟨_, rfl⟩
  · obtain ⟨_, h⟩ := chk_eq_ok h; cases h; exact ⟨_, rfl⟩
  · cases h
theorem cmpO_ok (hu : X.A.units + 66 < cLine) {o : CmpOp} {p : Op} (h : cmpO o = some p) : OpR X (compareOp o) (r2 X fa (op2 p)) ∧ two p = true ∧ ∀ x y d, op2 p x y = .ok d → ∃ k, d = .bl k := by
  cases o <;> first
    | (cases h; done)
    | (cases h; first
      | exact ⟨op_eqDD (by omega), rfl, fun _ _ _ h => opEq_bl h⟩
      | exact ⟨op_neDD (by omega), rfl, fun _ _ _ h => opEq_bl h⟩
      | exact ⟨op_ltD, rfl, fun _ _ _ h => opI_bl h⟩
      | exact ⟨op_leD, rfl, fun _ _ _ h => opI_bl h⟩
      | exact ⟨op_gtD, rfl, fun _ _ _ h => opI_bl h⟩
      | exact ⟨op_geD, rfl, fun _ _ _ h => opI_bl h⟩
      | exact ⟨op_inYes (by omega), rfl, fun _ _ _ h => opIn_bl h⟩
      | exact ⟨op_inNo (by omega), rfl, fun _ _ _ h => opIn_bl h⟩)
end
def ps1 (a : P) : Ps := .cons a .nil
def ps2 (a b : P) : Ps := .cons a (.cons b .nil)
def ps3 (a b c : P) : Ps := .cons a (.cons b (.cons c .nil))
section
variable {cl : Cl}
theorem bind_fun {α β : Type} (x : Out α) {f g : α → Out β} (h : ∀ a, f a = g a) : x.bind f = x.bind g := by
  cases x with
  | ok a => exact h a
  | exc _ _ => rfl
  | bad => rfl
theorem evs1 (a : P) {β : Type} (k : List D → Out β) (env : RE.Env) : ((evs cl (ps1 a) env).bind k) = (ev cl a env).bind fun x => k [x] := by
  show ((ev cl a env).bind fun d => (Out.ok []).bind fun ds => .ok (d :: ds)).bind k = _
  cases ev cl a env <;> rfl
theorem evs2 (a b : P) {β : Type} (k : List D → Out β) (env : RE.Env) : ((evs cl (ps2 a b) env).bind k) = (ev cl a env).bind fun x => (ev cl b env).bind fun y => k [x, y] := by
  show ((ev cl a env).bind fun d => ((ev cl b env).bind fun d => (Out.ok []).bind fun ds => .ok (d :: ds)).bind fun ds => .ok (d :: ds)).bind k = _
  cases ev cl a env <;> try rfl
  cases ev cl b env <;> rfl
theorem evs3 (a b c : P) {β : Type} (k : List D → Out β) (env : RE.Env) : ((evs cl (ps3 a b c) env).bind k) = (ev cl a env).bind fun x => (ev cl b env).bind fun y => (ev cl c env).bind fun z => k [x, y, z] := by
  show ((ev cl a env).bind fun d => ((ev cl b env).bind fun d => ((ev cl c env).bind fun d => (Out.ok []).bind fun ds => .ok (d :: ds)).bind fun ds => .ok (d :: ds)).bind fun ds => .ok (d :: ds)).bind k = _
  cases ev cl a env <;> try rfl
  cases ev cl b env <;> try rfl
  cases ev cl c env <;> rfl
theorem ev_one {p : Op} (h : two p = true) (a : P) : ev cl (.op p (ps1 a)) = fun env => (ev cl a env).bind fun x => op1 p x := by
  funext env
  show (evs cl (ps1 a) env).bind _ = _
  rw [evs1]
  exact bind_fun _ fun x => op_one h x
theorem ev_two {p : Op} (h : two p = true) (a b : P) : ev cl (.op p (ps2 a b)) = fun env => (ev cl a env).bind fun x => (ev cl b env).bind fun y => op2 p x y := by
  funext env
  show (evs cl (ps2 a b) env).bind _ = _
  rw [evs2]
  exact bind_fun _ fun x => bind_fun _ fun y => op_two h x y
end

/-! ### lists of expressions -/
def seqP (r : Expr → Option P) : List Expr → Option Ps
  | [] => some .nil
  | e :: es => ifO (notStar e) ((r e).bind fun p => (seqP r es).bind fun ps => some (.cons p ps))
def lenPs : Ps → Nat
  | .nil => 0
  | .cons _ r => lenPs r + 1
theorem evs_len {cl : Cl} : ∀ {ps : Ps} {env : RE.Env} {ds : List D}, evs cl ps env = .ok ds → ds.length = lenPs ps
  | .nil, _, _, h => by cases h; rfl
  | .cons p r, env, ds, h => by
    obtain ⟨d, _, h⟩ := Out.bind_eq_ok h
    obtain ⟨es, h2, h⟩ := Out.bind_eq_ok h
    cases h
    exact congrArg (· + 1) (evs_len h2)
section
variable {X : Cx} {fa : Nat → Option Addr} {cl : Cl} {r : Expr → Option P}
theorem seqP_ok (hr : ∀ e p, r e = some p → PE X e (tP X fa (ev cl p))) : ∀ {es : List Expr} {ps : Ps}, seqP r es = some ps → PA X es (tPs X fa (evs cl ps)) ∧ lenPs ps = es.length ∧ noStar es = true
  | [], ps, h => by cases h; exact ⟨pas_nil, rfl, rfl⟩
  | e :: es, ps, h => by
    obtain ⟨hs, h⟩ := ifO_some h
    obtain ⟨p, h1, h⟩ := obind h
    obtain ⟨qs, h2, h⟩ := obind h
    cases h
    obtain ⟨i1, i2, i3⟩ := seqP_ok hr h2
    exact ⟨pas_cons (hr e p h1) i1 (star_of hs), congrArg (· + 1) i2, by unfold noStar at i3 ⊢; rw [List.all_cons, hs, i3]; rfl⟩
theorem seqL_ok (hr : ∀ e p, r e = some p → PE X e (tL X fa (ev cl p))) : ∀ {es : List Expr} {ps : Ps}, seqP r es = some ps → PA X es (tLs X fa (evs cl ps)) ∧ lenPs ps = es.length ∧ noStar es = true
  | [], ps, h => by cases h; exact ⟨pls_nil, rfl, rfl⟩
  | e :: es, ps, h => by
    obtain ⟨hs, h⟩ := ifO_some h
    obtain ⟨p, h1, h⟩ := obind h
    obtain ⟨qs, h2, h⟩ := obind h
    cases h
    obtain ⟨i1, i2, i3⟩ := seqL_ok hr h2
    exact ⟨pls_cons (hr e p h1) i1 (star_of hs), congrArg (· + 1) i2, by unfold noStar at i3 ⊢; rw [List.all_cons, hs, i3]; rfl⟩
end
end RE
end

section
set_option linter.all false
set_option maxRecDepth 100000
set_option maxHeartbeats 4000000
/-! RE24: expressions, one form each. -/
namespace RE
open PySem PySem.Spec PyProof.Rows L2

/-- the parts of an expression, each by its own translation -/
structure Tr where
  p : Expr → Option P
  l : Expr → Option P
  t : Expr → Option P
  f : Expr → Option F
structure TrOk (X : Cx) (fa : Nat → Option Addr) (cl : Cl) (T : Tr) : Prop where
  p : ∀ e q, T.p e = some q → PE X e (tP X fa (ev cl q))
  l : ∀ e q, T.l e = some q → PE X e (tL X fa (ev cl q))
  t : ∀ e q, T.t e = some q → PT X e (tT X fa (ev cl q))
  f : ∀ e q, T.f e = some q → PE X e (tF X fa (evF cl q))

/-! ### names and constants -/
def cConst : Const → Option P
  | .int i => some (.con (.int i))
  | .bool b => some (.con (.bl b))
  | .none => some (.con .non)
  | .str x => some (.con (.str x.cps.toList))
  | _ => none
def cNameG (C : Ct) (x : Str) : Option P := ifO (okN x && C.glb x) ((C.cs.lookup x).map P.con)
def cName (C : Ct) (x : Str) : Option P := match C.vis x with
  | true => ifO (okN x) ((C.ix x).map P.var)
  | false => cNameG C x
def cNameL (C : Ct) (x : Str) : Option P := match C.vis x with
  | true => ifO (okN x) ((C.ix x).map P.bvar)
  | false => cNameG C x
section
variable {C : Ct} {X : Cx} {fa : Nat → Option Addr} {cl : Cl} {T : Tr}
theorem cConst_ok {c : Const} {j : Nat} {pos : Pos} {q : P} (h : cConst c = some q) : PE X (.Constant c j pos) (tP X fa (ev cl q)) := by
  cases c <;> first
    | (cases h; done)
    | (cases h; first
      | exact pp_con pe_int fun _ _ => .int _
      | exact pp_con pe_bl fun _ _ => .bl _
      | exact pp_con pe_non fun _ _ => .non
      | exact pp_con pe_str fun R Hf => by
          have := Rp.str (R := R) (H := Hf) (Array.toList (Str.cps ‹Str›))
          simpa using this)
theorem cVar_ok (hC : CxOk C X fa cl) {x : Str} {i : Nat} (hv : C.vis x = true) (ho : okN x = true) (hi : C.ix x = some i) {pos : Pos} : PE X (.Name x pos) (tVar i) :=
  pe_var (hC.ix hi) (hC.vis hv) (okN_1 ho).1 (okN_1 ho).2.2
theorem cNameG_ok (hC : CxOk C X fa cl) {x : Str} {q : P} {pos : Pos} (h : cNameG C x = some q) : PE X (.Name x pos) (tP X fa (ev cl q)) := by
  obtain ⟨h1, h⟩ := ifO_some h
  obtain ⟨d, h2, h⟩ := omap h
  subst h
  rw [Bool.and_eq_true] at h1
  obtain ⟨v, u, g1, g2, g3⟩ := hC.cs x d h2
  exact pp_conK (pe_glob (hC.gl h1.2) g1 g2 (okN_1 h1.1).1) g3
theorem cName_ok (hC : CxOk C X fa cl) {x : Str} {q : P} {pos : Pos} (h : cName C x = some q) : PE X (.Name x pos) (tP X fa (ev cl q)) := by
  unfold cName at h
  cases hv : C.vis x with
  | true =>
    rw [hv] at h
    obtain ⟨h1, h⟩ := ifO_some h
    obtain ⟨i, h2, h⟩ := omap h
    subst h
    exact pp_var (cVar_ok hC hv h1 h2)
  | false => rw [hv] at h; exact cNameG_ok hC h
theorem cNameL_ok (hC : CxOk C X fa cl) {x : Str} {q : P} {pos : Pos} (h : cNameL C x = some q) : PE X (.Name x pos) (tL X fa (ev cl q)) := by
  unfold cNameL at h
  cases hv : C.vis x with
  | true =>
    rw [hv] at h
    obtain ⟨h1, h⟩ := ifO_some h
    obtain ⟨i, h2, h⟩ := omap h
    subst h
    exact pl_bvar (cVar_ok hC hv h1 h2)
  | false => rw [hv] at h; exact pl_of (cNameG_ok hC h)
end

/-! ### operators -/
def cBin (T : Tr) (o : Operator) (a b : Expr) : Option P := (binO o).bind fun p => (T.l a).bind fun x => (T.l b).bind fun y => some (.op p (ps2 x y))
def cUn (T : Tr) (o : UnaryOp) (a : Expr) : Option P := match o with
  | .Not => (T.l a).map P.not
  | .USub => (T.l a).map fun x => .op .neg (ps1 x)
  | .Invert => (T.l a).map fun x => .op .inv (ps1 x)
  | _ => none
def cAnd (r : Expr → Option P) : List Expr → Option P
  | [] => none
  | [a] => r a
  | a :: b :: rest => (r a).bind fun x => (cAnd r (b :: rest)).bind fun y => some (.and x y)
def cOr (r : Expr → Option P) : List Expr → Option P
  | [] => none
  | [a] => r a
  | a :: b :: rest => (r a).bind fun x => (cOr r (b :: rest)).bind fun y => some (.or x y)
def isNoneE : Expr → Bool
  | .Constant .none _ _ => true
  | _ => false
def cCmp1 (T : Tr) (a : Expr) (o : CmpOp) (b : Expr) : Option P := match o with
  | .Is => ifO (isNoneE b) ((T.l a).map fun x => .op .isN (ps1 x))
  | .IsNot => ifO (isNoneE b) ((T.l a).map fun x => .op .isntN (ps1 x))
  | _ => ifO (notSet b) ((cmpO o).bind fun p => (T.l a).bind fun x => (T.l b).bind fun y => some (.op p (ps2 x y)))
def cCmp (T : Tr) (a : Expr) (os : List CmpOp) (bs : List Expr) : Option P := match os, bs with
  | [o], [b] => cCmp1 T a o b
  | [o, o'], [b, c] => ifO (notSet c) ((cmpO o).bind fun p => (cmpO o').bind fun p' => (T.l a).bind fun x => (T.l b).bind fun y => (T.l c).bind fun z => some (.chain p p' x y z))
  | _, _ => none
def cIte (T : Tr) (r : Expr → Option P) (c a b : Expr) : Option P := (T.t c).bind fun x => (r a).bind fun y => (r b).bind fun z => some (.ite x y z)
section
variable {C : Ct} {X : Cx} {fa : Nat → Option Addr} {cl : Cl} {T : Tr} {q : P} {a b c : Expr} {pos : Pos}
theorem cBin_ok (hT : TrOk X fa cl T) {o : Operator} (h : cBin T o a b = some q) : PE X (.BinOp a o b pos) (tP X fa (ev cl q)) := by
  obtain ⟨p, h1, h⟩ := obind h
  obtain ⟨x, h2, h⟩ := obind h
  obtain ⟨y, h3, h⟩ := obind h
  cases h
  obtain ⟨g1, g2⟩ := binO_ok (X := X) (fa := fa) h1
  rw [ev_two g2]
  exact pp_bin g1 (hT.l _ _ h2) (hT.l _ _ h3)
theorem cUn_ok (hT : TrOk X fa cl T) {o : UnaryOp} (h : cUn T o a = some q) : PE X (.UnaryOp o a pos) (tP X fa (ev cl q)) := by
  cases o <;> try (cases h; done)
  all_goals
    obtain ⟨x, h1, h⟩ := omap h
    subst h
  · first
    | exact pp_not (hT.l _ _ h1)
    | (rw [ev_one rfl]; first | exact pp_un un_negD (hT.l _ _ h1) | exact pp_un un_invD (hT.l _ _ h1))
  · first
    | exact pp_not (hT.l _ _ h1)
    | (rw [ev_one rfl]; first | exact pp_un un_negD (hT.l _ _ h1) | exact pp_un un_invD (hT.l _ _ h1))
  · first
    | exact pp_not (hT.l _ _ h1)
    | (rw [ev_one rfl]; first | exact pp_un un_negD (hT.l _ _ h1) | exact pp_un un_invD (hT.l _ _ h1))
theorem cAnd_ok {r : Expr → Option P} (hr : ∀ e q, r e = some q → PE X e (tP X fa (ev cl q))) : ∀ {es : List Expr} {q : P}, cAnd r es = some q → PE X (.BoolOp .And es pos) (tP X fa (ev cl q))
  | [], _, h => by cases h
  | [a], q, h => pe_one (hr a q h)
  | a :: b :: rest, q, h => by
    obtain ⟨x, h1, h⟩ := obind h
    obtain ⟨y, h2, h⟩ := obind h
    cases h
    exact pp_and (hr a x h1) (cAnd_ok hr h2)
theorem cOr_ok {r : Expr → Option P} (hr : ∀ e q, r e = some q → PE X e (tP X fa (ev cl q))) : ∀ {es : List Expr} {q : P}, cOr r es = some q → PE X (.BoolOp .Or es pos) (tP X fa (ev cl q))
  | [], _, h => by cases h
  | [a], q, h => pe_one (hr a q h)
  | a :: b :: rest, q, h => by
    obtain ⟨x, h1, h⟩ := obind h
    obtain ⟨y, h2, h⟩ := obind h
    cases h
    exact pp_or (hr a x h1) (cOr_ok hr h2)
theorem cAndT_ok {r : Expr → Option P} (hr : ∀ e q, r e = some q → PT X e (tT X fa (ev cl q))) : ∀ {es : List Expr} {q : P}, cAnd r es = some q → PW X (.BoolOp .And es pos) (tT X fa (ev cl q))
  | [], _, h => by cases h
  | [a], q, h => ptw_and1 (hr a q h)
  | a :: b :: rest, q, h => by
    obtain ⟨x, h1, h⟩ := obind h
    obtain ⟨y, h2, h⟩ := obind h
    cases h
    exact ptw_and (hr a x h1) (cAndT_ok hr h2)
theorem cOrT_ok {r : Expr → Option P} (hr : ∀ e q, r e = some q → PT X e (tT X fa (ev cl q))) : ∀ {es : List Expr} {q : P}, cOr r es = some q → PW X (.BoolOp .Or es pos) (tT X fa (ev cl q))
  | [], _, h => by cases h
  | [a], q, h => ptw_or1 (hr a q h)
  | a :: b :: rest, q, h => by
    obtain ⟨x, h1, h⟩ := obind h
    obtain ⟨y, h2, h⟩ := obind h
    cases h
    exact ptw_or (hr a x h1) (cOrT_ok hr h2)
theorem isNoneE_of {b : Expr} (h : isNoneE b = true) : ∃ j p, b = .Constant .none j p := by
  unfold isNoneE at h
  split at h
  · exact ⟨_, _, rfl⟩
  · cases h
theorem cCmp1_ok (hu : X.A.units + 66 < cLine) (hT : TrOk X fa cl T) {o : CmpOp} (h : cCmp1 T a o b = some q) : PE X (.Compare a [o] [b] pos) (tP X fa (ev cl q)) ∧ PT X (.Compare a [o] [b] pos) (tT X fa (ev cl q)) := by
  by_cases ho : o = .Is
  · subst ho
    obtain ⟨hn, h⟩ := ifO_some h
    obtain ⟨x, h1, h⟩ := omap h
    subst h
    obtain ⟨j, p, rfl⟩ := isNoneE_of hn
    rw [ev_one rfl]
    exact ⟨pp_isN (hT.l _ _ h1), ptt_isN (hT.l _ _ h1)⟩
  · by_cases ho2 : o = .IsNot
    · subst ho2
      obtain ⟨hn, h⟩ := ifO_some h
      obtain ⟨x, h1, h⟩ := omap h
      subst h
      obtain ⟨j, p, rfl⟩ := isNoneE_of hn
      rw [ev_one rfl]
      exact ⟨pp_notN (hT.l _ _ h1), ptt_notN (hT.l _ _ h1)⟩
    · have h : ifO (notSet b) ((cmpO o).bind fun p => (T.l a).bind fun x => (T.l b).bind fun y => some (P.op p (ps2 x y))) = some q := by
        cases o <;> first | exact h | exact absurd rfl ho | exact absurd rfl ho2
      obtain ⟨hn, h⟩ := ifO_some h
      obtain ⟨p, h1, h⟩ := obind h
      obtain ⟨x, h2, h⟩ := obind h
      obtain ⟨y, h3, h⟩ := obind h
      cases h
      obtain ⟨g1, g2, g3⟩ := cmpO_ok (X := X) (fa := fa) hu h1
      rw [ev_two g2]
      exact ⟨pp_cmp g1 (hT.l _ _ h2) (hT.l _ _ h3) (notSet_in hn o), ptt_bin g1 (hT.l _ _ h2) (hT.l _ _ h3) (notSet_in hn o) g3⟩
theorem ptt_chain {o o' : CmpOp} {go go' : D → D → Out D} {f g h : RE.Env → Out D} (ho : OpR X (compareOp o) (r2 X fa go)) (ho' : OpR X (compareOp o') (r2 X fa go')) (p : PE X a (tL X fa f)) (p' : PE X b (tL X fa g)) (p'' : PE X c (tL X fa h)) (hl : lastMarks [o, o'] [b, c] = false) (hb : ∀ x y d, go' x y = .ok d → ∃ k, d = .bl k) :
    PT X (.Compare a [o, o'] [b, c] pos) (tT X fa fun env => (f env).bind fun x => (g env).bind fun y => (go x y).bind fun z => match z with
      | .bl true => (h env).bind fun w => go' y w
      | .bl false => .ok (.bl false)
      | _ => .bad) := by
  refine PT.imp (pt_chain ho ho' p p' p'' hl) ?_
  rintro σ H Q ⟨env, Hf, Os, d, kk, S, e, e9, q⟩
  obtain ⟨d1, e1, e⟩ := Out.bind_eq_ok e
  obtain ⟨d2, e2, e⟩ := Out.bind_eq_ok e
  obtain ⟨d3, e3, e⟩ := Out.bind_eq_ok e
  refine ⟨env, Hf, Os, d1, S, e1, fun v Hf1 H1 S1 st1 r1 => ⟨env, Hf1, Os, d2, S1, e2, fun u Hf2 H2 S2 st2 r2 => ?_⟩⟩
  refine ⟨env, σ, Hf2, Os, d1, d2, d3, S2, r1.mono st2.fr st2.same, r2, e3, fun z Hf3 H3 S3 st3 r3 => ?_⟩
  cases d3 <;> try (cases e; done)
  rename_i k
  cases r3
  refine ⟨k, rfl, ?_⟩
  cases k with
  | true =>
    obtain ⟨d4, e4, e⟩ := Out.bind_eq_ok e
    rw [if_pos rfl]
    obtain ⟨j, rfl⟩ := hb _ _ _ e
    have e9 : j = kk := Option.some.inj e9
    subst e9
    refine ⟨env, Hf3, Os, d4, S3, e4, fun y Hf4 H4 S4 st4 r4 => ⟨env, σ, Hf4, Os, d2, d4, _, S4, (r2.mono st3.fr st3.same).mono st4.fr st4.same, r4, e, fun w Hf5 H5 S5 st5 r5 => ?_⟩⟩
    cases r5
    exact ⟨j, rfl, q Hf5 H5 S5 ((((st1.trans st2).trans st3).trans st4).trans st5)⟩
  | false =>
    cases e
    cases e9
    rw [if_neg Bool.false_ne_true]
    exact ⟨false, rfl, q Hf3 H3 S3 ((st1.trans st2).trans st3)⟩
theorem cCmp_ok (hu : X.A.units + 66 < cLine) (hT : TrOk X fa cl T) {os : List CmpOp} {bs : List Expr} (h : cCmp T a os bs = some q) : PE X (.Compare a os bs pos) (tP X fa (ev cl q)) ∧ PT X (.Compare a os bs pos) (tT X fa (ev cl q)) := by
  unfold cCmp at h
  split at h
  · exact cCmp1_ok hu hT h
  · rename_i o o' b c
    obtain ⟨hn, h⟩ := ifO_some h
    obtain ⟨p, h1, h⟩ := obind h
    obtain ⟨p', h2, h⟩ := obind h
    obtain ⟨x, h3, h⟩ := obind h
    obtain ⟨y, h4, h⟩ := obind h
    obtain ⟨z, h5, h⟩ := obind h
    cases h
    obtain ⟨g1, g2, g3⟩ := cmpO_ok (X := X) (fa := fa) hu h1
    obtain ⟨k1, k2, k3⟩ := cmpO_ok (X := X) (fa := fa) hu h2
    have hl : lastMarks [o, o'] [b, c] = false := notSet_in hn o'
    have e : ev cl (.chain p p' x y z) = fun env => (ev cl x env).bind fun x => (ev cl y env).bind fun y => (op2 p x y).bind fun w => match w with
      | .bl true => (ev cl z env).bind fun w => op2 p' y w
      | .bl false => .ok (.bl false)
      | _ => .bad := by
      funext env
      refine bind_fun _ fun u => bind_fun _ fun v => ?_
      rw [op_two g2]
      refine bind_fun _ fun w => ?_
      cases w <;> try rfl
      rename_i k
      cases k
      · rfl
      · exact bind_fun _ fun w => op_two k2 v w
    rw [e]
    exact ⟨pp_chain g1 k1 (hT.l _ _ h3) (hT.l _ _ h4) (hT.l _ _ h5) hl, ptt_chain g1 k1 (hT.l _ _ h3) (hT.l _ _ h4) (hT.l _ _ h5) hl k3⟩
  · cases h
theorem cIte_ok (hT : TrOk X fa cl T) (h : cIte T T.p c a b = some q) : PE X (.IfExp c a b pos) (tP X fa (ev cl q)) := by
  obtain ⟨x, h1, h⟩ := obind h
  obtain ⟨y, h2, h⟩ := obind h
  obtain ⟨z, h3, h⟩ := obind h
  cases h
  exact pp_ite (hT.t _ _ h1) (hT.p _ _ h2) (hT.p _ _ h3)
theorem cIteT_ok (hT : TrOk X fa cl T) (h : cIte T T.t c a b = some q) : PT X (.IfExp c a b pos) (tT X fa (ev cl q)) := by
  obtain ⟨x, h1, h⟩ := obind h
  obtain ⟨y, h2, h⟩ := obind h
  obtain ⟨z, h3, h⟩ := obind h
  cases h
  exact ptt_ite (hT.t _ _ h1) (hT.t _ _ h2) (hT.t _ _ h3)
end

/-! ### subscripts -/
def isM1 : Option Expr → Bool
  | some (.UnaryOp .USub (.Constant (.int 1) _ _) _) => true
  | _ => false
def cSlice (T : Tr) (e : Expr) (lo hi st : Option Expr) : Option P := match lo, hi, st with
  | none, none, none => (T.l e).map fun x => .op (.sl false false) (ps1 x)
  | some a, none, none => (T.l e).bind fun x => (T.l a).bind fun y => some (.op (.sl true false) (ps2 x y))
  | none, some b, none => (T.l e).bind fun x => (T.l b).bind fun y => some (.op (.sl false true) (ps2 x y))
  | some a, some b, none => (T.l e).bind fun x => (T.l a).bind fun y => (T.l b).bind fun z => some (.op (.sl true true) (ps3 x y z))
  | none, none, some s => ifO (isM1 (some s)) ((T.l e).map fun x => .op .rev (ps1 x))
  | _, _, _ => none
def cSub (T : Tr) (e i : Expr) : Option P := match i with
  | .Slice lo hi st _ => cSlice T e lo hi st
  | _ => (T.l e).bind fun x => (T.l i).bind fun y => some (.op .idx (ps2 x y))
section
variable {C : Ct} {X : Cx} {fa : Nat → Option Addr} {cl : Cl} {T : Tr} {q : P} {a b c e i : Expr} {pos p2 : Pos}
theorem cSlice_ok (hT : TrOk X fa cl T) {lo hi st : Option Expr} (h : cSlice T e lo hi st = some q) : PE X (.Subscript e (.Slice lo hi st p2) pos) (tP X fa (ev cl q)) := by
  unfold cSlice at h
  split at h
  · obtain ⟨x, h1, h⟩ := omap h
    subst h
    have e : ev cl (.op (.sl false false) (ps1 x)) = fun env => (ev cl x env).bind (opSl false false []) := by
      funext env
      show (evs cl (ps1 x) env).bind _ = _
      rw [evs1]
      rfl
    rw [e]
    exact pp_sl0 (hT.l _ _ h1)
  · obtain ⟨x, h1, h⟩ := obind h
    obtain ⟨y, h2, h⟩ := obind h
    cases h
    have e : ev cl (.op (.sl true false) (ps2 x y)) = fun env => (ev cl x env).bind fun x => (ev cl y env).bind fun y => opSl true false [y] x := by
      funext env
      show (evs cl (ps2 x y) env).bind _ = _
      rw [evs2]
      rfl
    rw [e]
    exact pp_sl1 (hT.l _ _ h1) (hT.l _ _ h2)
  · obtain ⟨x, h1, h⟩ := obind h
    obtain ⟨y, h2, h⟩ := obind h
    cases h
    have e : ev cl (.op (.sl false true) (ps2 x y)) = fun env => (ev cl x env).bind fun x => (ev cl y env).bind fun y => opSl false true [y] x := by
      funext env
      show (evs cl (ps2 x y) env).bind _ = _
      rw [evs2]
      rfl
    rw [e]
    exact pp_sl2 (hT.l _ _ h1) (hT.l _ _ h2)
  · obtain ⟨x, h1, h⟩ := obind h
    obtain ⟨y, h2, h⟩ := obind h
    obtain ⟨z, h3, h⟩ := obind h
    cases h
    have e : ev cl (.op (.sl true true) (ps3 x y z)) = fun env => (ev cl x env).bind fun x => (ev cl y env).bind fun y => (ev cl z env).bind fun z => opSl true true [y, z] x := by
      funext env
      show (evs cl (ps3 x y z) env).bind _ = _
      rw [evs3]
      rfl
    rw [e]
    exact pp_sl3 (hT.l _ _ h1) (hT.l _ _ h2) (hT.l _ _ h3)
  · rename_i s
    obtain ⟨hm, h⟩ := ifO_some h
    obtain ⟨x, h1, h⟩ := omap h
    subst h
    unfold isM1 at hm
    split at hm
    · rename_i k p1 p2' heq
      cases heq
      rw [ev_one rfl]
      exact pp_rev (hT.l _ _ h1)
    · cases hm
  · cases h
theorem cSub_ok (hu : X.A.units + 66 < cLine) (hT : TrOk X fa cl T) (h : cSub T e i = some q) : PE X (.Subscript e i pos) (tP X fa (ev cl q)) := by
  by_cases hs : notSlice i = true
  · have h : ((T.l e).bind fun x => (T.l i).bind fun y => some (P.op .idx (ps2 x y))) = some q := by
      cases i <;> first | exact h | cases hs
    obtain ⟨x, h1, h⟩ := obind h
    obtain ⟨y, h2, h⟩ := obind h
    cases h
    rw [ev_two rfl]
    exact pp_ix (ix_all (by omega)) (hT.l _ _ h1) (hT.l _ _ h2) (plainIx_of hs)
  · cases i <;> first | exact absurd rfl hs | skip
    exact cSlice_ok hT h
end
end RE
end

section
set_option linter.all false
set_option maxRecDepth 100000
set_option maxHeartbeats 4000000
/-! RE25: calls, displays, comprehensions; the knot. -/
namespace RE
open PySem PySem.Spec PyProof.Rows L2

/-! ### built-in functions -/
inductive BK where
  | b1 (id : String) (o : Op) | t1 (T : String) (o : Op) | b2 (id : String) (o : Op) | isi | list | sorted
def bls : List (Str × BK) := [("len", .b1 "len" .len), ("abs", .b1 "abs" .abs), ("sum", .b1 "sum" .sum), ("all", .b1 "all" .all), ("any", .b1 "any" .any), ("int", .t1 "int" .int), ("tuple", .t1 "tuple" .tuple), ("max", .b2 "max" .max2), ("min", .b2 "min" .min2), ("isinstance", .isi), ("list", .list), ("sorted", .sorted)]
/-- what a kind of built-in does -/
def bkOk (X : Cx) (fa : Nat → Option Addr) (x : Str) : BK → Prop
  | .b1 id o => bootBuiltins x = some (.builtin id) ∧ CallR X (.builtin id) (rC1 X fa (op1 o)) ∧ two o = true
  | .t1 T o => bootBuiltins x = some (.type T) ∧ CallR X (.type T) (rC1 X fa (op1 o)) ∧ two o = true
  | .b2 id o => bootBuiltins x = some (.builtin id) ∧ CallR X (.builtin id) (rC2 X fa (op2 o)) ∧ two o = true
  | .isi => x = "isinstance"
  | .list => bootBuiltins x = some (.type "list")
  | .sorted => bootBuiltins x = some (.builtin "sorted")
theorem lookup_mem {α β : Type} [BEq α] [LawfulBEq α] {x : α} {y : β} : ∀ {l : List (α × β)}, l.lookup x = some y → (x, y) ∈ l
  | [], h => by cases h
  | (a, b) :: l, h => by
    rw [List.lookup_cons] at h
    cases e : x == a with
    | true => rw [e] at h; cases h; rw [eq_of_beq e]; exact List.mem_cons_self
    | false => rw [e] at h; exact List.mem_cons_of_mem _ (lookup_mem h)
theorem boot_all : (bls.all fun p => match p.2 with
    | .b1 id _ => decide (bootBuiltins p.1 = some (.builtin id))
    | .t1 T _ => decide (bootBuiltins p.1 = some (.type T))
    | .b2 id _ => decide (bootBuiltins p.1 = some (.builtin id))
    | .isi => decide (p.1 = "isinstance")
    | .list => decide (bootBuiltins p.1 = some (.type "list"))
    | .sorted => decide (bootBuiltins p.1 = some (.builtin "sorted"))) = true := by decide +kernel
def bkGo (X : Cx) (fa : Nat → Option Addr) : BK → Prop
  | .b1 id o => CallR X (.builtin id) (rC1 X fa (op1 o)) ∧ two o = true
  | .t1 T o => CallR X (.type T) (rC1 X fa (op1 o)) ∧ two o = true
  | .b2 id o => CallR X (.builtin id) (rC2 X fa (op2 o)) ∧ two o = true
  | _ => True
theorem bkGo_all {X : Cx} {fa : Nat → Option Addr} (hc : X.calm = true) : ∀ k, k ∈ bls.map (·.2) → bkGo X fa k := by
  intro k h
  unfold bls at h
  simp only [List.map_cons, List.map_nil, List.mem_cons, List.not_mem_nil, or_false] at h
  rcases h with rfl | rfl | rfl | rfl | rfl | rfl | rfl | rfl | rfl | rfl | rfl | rfl
  · exact ⟨call_lenD', rfl⟩
  · exact ⟨call_absD, rfl⟩
  · exact ⟨call_sumD hc, rfl⟩
  · exact ⟨call_allD hc, rfl⟩
  · exact ⟨call_anyD hc, rfl⟩
  · exact ⟨call_intD, rfl⟩
  · exact ⟨call_tupleD, rfl⟩
  · exact ⟨call_max2D hc, rfl⟩
  · exact ⟨call_min2D hc, rfl⟩
  all_goals exact trivial
theorem bk_of {X : Cx} {fa : Nat → Option Addr} (hc : X.calm = true) {x : Str} {k : BK} (h : bls.lookup x = some k) : bkOk X fa x k := by
  have hm := lookup_mem h
  have hb := List.all_eq_true.mp boot_all _ hm
  have go := bkGo_all (X := X) (fa := fa) hc k (List.mem_map.mpr ⟨_, hm, rfl⟩)
  clear h hm
  cases k with
  | b1 id o => exact ⟨of_decide_eq_true hb, go⟩
  | t1 T o => exact ⟨of_decide_eq_true hb, go⟩
  | b2 id o => exact ⟨of_decide_eq_true hb, go⟩
  | isi => have := of_decide_eq_true hb; exact this
  | list => have := of_decide_eq_true hb; exact this
  | sorted => have := of_decide_eq_true hb; exact this
def isSetCall (C : Ct) : Expr → Option Expr
  | .Call (.Name x _) [a] [] _ => ifO (x == "set" && C.glb x && C.bl.contains x && notStar a) (some a)
  | _ => none
def cBlt (C : Ct) (T : Tr) (k : BK) (args : List Expr) : Option P := match k, args with
  | .b1 _ o, [a] => match o, isSetCall C a with
    | .len, some b => (T.l b).map fun x => .op .lenset (ps1 x)
    | _, _ => ifO (notStar a) ((T.l a).map fun x => .op o (ps1 x))
  | .t1 _ o, [a] => ifO (notStar a) ((T.l a).map fun x => .op o (ps1 x))
  | .b2 _ o, [a, b] => ifO (notStar a && notStar b) ((T.l a).bind fun x => (T.l b).map fun y => .op o (ps2 x y))
  | .isi, [a, .Name t _] => ifO (notStar a && okN t && C.glb t && C.bl.contains t) ((isiTys.find? fun u => t == Str.ofString u).bind fun u => (T.l a).map fun x => .op (.isi u) (ps1 x))
  | _, _ => none
def cCall (C : Ct) (T : Tr) (x : Str) (args : List Expr) : Option P := ifO (okN x && C.glb x) (match C.fs.lookup x with
  | some (0, i, np) => match args with
    | [] => ifO (np == 0) (some (.call i .nil))
    | a :: as => (seqP T.p (a :: as)).bind fun ps => ifO (lenPs ps == np) (some (.call i ps))
  | some _ => none
  | none => ifO (C.bl.contains x) ((bls.lookup x).bind fun k => cBlt C T k args))
section
variable {C : Ct} {X : Cx} {fa : Nat → Option Addr} {cl : Cl} {T : Tr} {q : P} {a b c e i : Expr} {pos p0 p2 : Pos} {x : Str} {args : List Expr}
theorem boot_isi : (isiTys.all fun u => decide (bootBuiltins (Str.ofString u) = some (.type u))) = true := by decide +kernel
theorem isSetCall_of (hC : CxOk C X fa cl) {a b : Expr} (h : isSetCall C a = some b) : ∃ p q, a = .Call (.Name "set" p) [b] [] q ∧ Gl X "set" ∧ X.mg "set" = none ∧ notStar b = true := by
  unfold isSetCall at h
  split at h
  · obtain ⟨h1, h⟩ := ifO_some h
    cases h
    simp only [Bool.and_eq_true] at h1
    obtain ⟨⟨⟨h1, h2⟩, h3⟩, h4⟩ := h1
    have e := eq_of_beq h1
    subst e
    exact ⟨_, _, rfl, hC.gl h2, hC.bl _ (by simpa using h3), h4⟩
  · cases h
theorem cBlt_ok (hC : CxOk C X fa cl) (hT : TrOk X fa cl T) {k : BK} (hk : bls.lookup x = some k) (hg : Gl X x) (hm : X.mg x = none) (ho : okN x = true) (h : cBlt C T k args = some q) : PE X (.Call (.Name x p0) args [] pos) (tP X fa (ev cl q)) := by
  have hb := bk_of (X := X) (fa := fa) hC.calm hk
  obtain ⟨n1, n2, n3⟩ := okN_1 ho
  unfold cBlt at h
  split at h
  · rename_i id o a
    obtain ⟨h1, h2, h3⟩ := hb
    have plain : ifO (notStar a) ((T.l a).map fun x => P.op o (ps1 x)) = some q → PE X (.Call (.Name x p0) [a] [] pos) (tP X fa (ev cl q)) := fun h => by
      obtain ⟨hs, h⟩ := ifO_some h
      obtain ⟨y, h4, h⟩ := omap h
      subst h
      rw [ev_one h3]
      exact pp_callB1 h2 hg hm h1 (hT.l _ _ h4) n2 n1 (star_of hs)
    split at h
    · rename_i b hs
      obtain ⟨y, h4, h⟩ := omap h
      subst h
      obtain ⟨p, r, rfl, g2, m2, sb⟩ := isSetCall_of hC hs
      rw [ev_one rfl]
      have hx : x = "len" := by
        have hm := lookup_mem hk
        unfold bls at hm
        simp only [List.mem_cons, List.not_mem_nil, or_false, Prod.mk.injEq] at hm
        rcases hm with ⟨e, z⟩ | ⟨e, z⟩ | ⟨e, z⟩ | ⟨e, z⟩ | ⟨e, z⟩ | ⟨e, z⟩ | ⟨e, z⟩ | ⟨e, z⟩ | ⟨e, z⟩ | ⟨e, z⟩ | ⟨e, z⟩ | ⟨e, z⟩ <;> first | exact e | cases z
      subst hx
      exact pp_lenset hg hm g2 m2 (hT.l _ _ h4) hC.calm (star_of sb) (star_of rfl)
    · exact plain h
  · obtain ⟨h1, h2, h3⟩ := hb
    obtain ⟨hs, h⟩ := ifO_some h
    obtain ⟨y, h4, h⟩ := omap h
    subst h
    rw [ev_one h3]
    exact pp_callT1 h2 hg hm h1 (hT.l _ _ h4) n2 n1 (star_of hs)
  · obtain ⟨h1, h2, h3⟩ := hb
    obtain ⟨hs, h⟩ := ifO_some h
    rw [Bool.and_eq_true] at hs
    obtain ⟨y, h4, h⟩ := obind h
    obtain ⟨z, h5, h⟩ := omap h
    subst h
    rw [ev_two h3]
    exact pp_callB2 h2 hg hm h1 (hT.l _ _ h4) (hT.l _ _ h5) n2 n1 (star_of hs.1) (star_of hs.2)
  · rename_i a t p1
    have hb : x = "isinstance" := hb
    subst hb
    obtain ⟨hs, h⟩ := ifO_some h
    simp only [Bool.and_eq_true] at hs
    obtain ⟨⟨⟨hs, ht⟩, hgt⟩, hbt⟩ := hs
    obtain ⟨u, h4, h⟩ := obind h
    obtain ⟨y, h5, h⟩ := omap h
    subst h
    have hu := List.find?_some h4
    have hmem := List.mem_of_find?_eq_some h4
    have e := eq_of_beq hu
    subst e
    have hbo := of_decide_eq_true (List.all_eq_true.mp boot_isi _ hmem)
    rw [ev_one rfl]
    exact pp_isi hmem hg hm (hC.gl hgt) (hC.bl _ (by simpa using hbt)) hbo (hT.l _ _ h5) (okN_1 ht).2.1 (okN_1 ht).1 (star_of hs)
  · cases h
theorem cCall_ok (hC : CxOk C X fa cl) (hT : TrOk X fa cl T) (h : cCall C T x args = some q) : PE X (.Call (.Name x p0) args [] pos) (tP X fa (ev cl q)) := by
  obtain ⟨h1, h⟩ := ifO_some h
  rw [Bool.and_eq_true] at h1
  obtain ⟨n1, n2, n3⟩ := okN_1 h1.1
  have hg := hC.gl h1.2
  split at h
  · rename_i i np hf
    have hc := hC.fs _ _ _ _ hf
    split at h
    · obtain ⟨h2, h⟩ := ifO_some h
      cases h
      have e : np = 0 := eq_of_beq h2
      subst e
      have e : ev cl (.call i .nil) = fun env => cl.f i [] := rfl
      rw [e]
      exact pp_call0 hc hg n1
    · rename_i a as
      obtain ⟨ps, h2, h⟩ := obind h
      obtain ⟨h3, h⟩ := ifO_some h
      cases h
      have h3 : lenPs ps = np := eq_of_beq h3
      obtain ⟨g1, g2, g3⟩ := seqP_ok (fun e p hp => hT.p e p hp) h2
      unfold noStar at g3
      rw [List.all_cons, Bool.and_eq_true] at g3
      exact pp_call hc hg g1 (fun env ds hd => by rw [evs_len hd, h3]) n1 (star_of g3.1) (plain_of g3.2)
  · cases h
  · obtain ⟨h2, h⟩ := ifO_some h
    obtain ⟨k, h3, h⟩ := obind h
    exact cBlt_ok hC hT h3 hg (hC.bl _ (by simpa using h2)) h1.1 h
end

/-! ### methods, displays -/
def cMeth (T : Tr) (o : Expr) (m : Str) (apos : Pos) (args : List Expr) (pos : Pos) : Option P := ifO (notCall0 o && apos.endLine == pos.line && noStar args) (match args with
  | [a] => ifO (m == "join") ((T.l o).bind fun x => (T.l a).map fun y => .op .join (ps2 x y))
  | [a, b] => ifO (m == "get") ((T.l o).bind fun x => (T.p a).bind fun y => (T.p b).map fun z => .op .get2 (ps3 x y z))
  | _ => none)
def unSome : List (Option Expr) → Option (List Expr)
  | [] => some []
  | some e :: r => (unSome r).map (e :: ·)
  | none :: _ => none
def cDict (T : Tr) (keys : List (Option Expr)) (values : List Expr) : Option P := (unSome keys).bind fun ks => ifO (ks.length == values.length && decide (1 ≤ ks.length ∧ ks.length ≤ 15)) ((seqP T.p ks).bind fun a => (seqP T.p values).map fun b => .dic a b)
def cTup (T : Tr) (es : List Expr) : Option P := ifO (decide (es.length ≤ 1000)) ((seqP T.p es).map P.tup)
def psL : Ps → List P
  | .nil => []
  | .cons p r => p :: psL r
section
variable {C : Ct} {X : Cx} {fa : Nat → Option Addr} {cl : Cl} {T : Tr} {q : P} {a b c e i o : Expr} {pos p0 p2 apos : Pos} {x m : Str} {args : List Expr}
theorem cMeth_ok (hC : CxOk C X fa cl) (hT : TrOk X fa cl T) (h : cMeth T o m apos args pos = some q) : PE X (.Call (.Attribute o m apos) args [] pos) (tP X fa (ev cl q)) := by
  obtain ⟨h1, h'⟩ := ifO_some h
  clear h
  simp only [Bool.and_eq_true] at h1
  obtain ⟨⟨h1, h2⟩, h3⟩ := h1
  split at h'
  · rename_i a
    obtain ⟨hm, h⟩ := ifO_some h'
    clear h'
    have e := eq_of_beq hm
    subst e
    obtain ⟨y, g1, h⟩ := obind h
    obtain ⟨z, g2, h⟩ := omap h
    subst h
    rw [ev_two rfl]
    have hs : notStar a = true := by simpa [noStar] using h3
    exact pp_join (hT.l _ _ g1) (hT.l _ _ g2) (star_of hs) (base_of h1) h2
  · rename_i a b
    obtain ⟨hm, h⟩ := ifO_some h'
    clear h'
    have e := eq_of_beq hm
    subst e
    obtain ⟨y, g1, h⟩ := obind h
    obtain ⟨z, g2, h⟩ := obind h
    obtain ⟨w, g3, h⟩ := omap h
    subst h
    have hs : notStar a = true ∧ notStar b = true := by simpa [noStar] using h3
    have e : ev cl (.op .get2 (ps3 y z w)) = fun env => (ev cl y env).bind fun a => (ev cl z env).bind fun b => (ev cl w env).bind fun c => opGet2 a b c := by
      funext env
      show (evs cl (ps3 y z w) env).bind _ = _
      rw [evs3]
      rfl
    rw [e]
    have s2 : starEach [a, b] X.env = [(false, eval a X.env), (false, eval b X.env)] := by rw [star_of hs.1, star_of hs.2]; rfl
    exact pp_get2 (by have := hC.un; omega) (hT.l _ _ g1) (hT.p _ _ g2) (hT.p _ _ g3) ⟨base_of h1, by rw [s2]; rfl, h2, by rw [s2]; rfl⟩
  · cases h'
theorem unSome_of : ∀ {ks : List (Option Expr)} {es : List Expr}, unSome ks = some es → ks = es.map some
  | [], _, h => by cases h; rfl
  | some e :: r, es, h => by
    obtain ⟨es', h1, h2⟩ := omap h
    subst h2
    rw [unSome_of h1]
    rfl
  | none :: _, _, h => by cases h
theorem pps_ok {r : Expr → Option P} (hr : ∀ e p, r e = some p → PE X e (tP X fa (ev cl p))) : ∀ {ks vs : List Expr} {a b : Ps}, seqP r ks = some a → seqP r vs = some b → ks.length = vs.length →
    PPs X pos (ks.map some) vs (((psL a).map (ev cl)).zip ((psL b).map (ev cl)) |>.map fun p => (tP X fa p.1, tP X fa p.2))
  | [], [], a, b, h1, h2, _ => by cases h1; cases h2; exact pps_nil
  | [], _ :: _, a, b, h1, h2, hl => by cases hl
  | _ :: _, [], a, b, h1, h2, hl => by cases hl
  | k :: ks, v :: vs, a, b, h1, h2, hl => by
    obtain ⟨_, h1⟩ := ifO_some h1
    obtain ⟨p, a1, h1⟩ := obind h1
    obtain ⟨ps, a2, h1⟩ := obind h1
    cases h1
    obtain ⟨_, h2⟩ := ifO_some h2
    obtain ⟨p', b1, h2⟩ := obind h2
    obtain ⟨ps', b2, h2⟩ := obind h2
    cases h2
    exact pps_cons (hr _ _ a1) (hr _ _ b1) (pps_ok hr a2 b2 (by simpa using hl))
theorem evs_map {env : RE.Env} : ∀ {ps : Ps} {ds : List D}, evs cl ps env = .ok ds → ((psL ps).map (ev cl)).map (fun f => f env) = ds.map .ok
  | .nil, _, h => by cases h; rfl
  | .cons p r, ds, h => by
    obtain ⟨d, h1, h⟩ := Out.bind_eq_ok h
    obtain ⟨es, h2, h⟩ := Out.bind_eq_ok h
    cases h
    show ev cl p env :: _ = _
    rw [h1]
    exact congrArg _ (evs_map h2)
theorem lenPs_psL : ∀ ps : Ps, (psL ps).length = lenPs ps
  | .nil => rfl
  | .cons _ r => congrArg (· + 1) (lenPs_psL r)
theorem cDict_ok (hT : TrOk X fa cl T) {keys : List (Option Expr)} {values : List Expr} (h : cDict T keys values = some q) : PE X (.Dict keys values pos) (tP X fa (ev cl q)) := by
  obtain ⟨ks, h1, h⟩ := obind h
  obtain ⟨h2, h⟩ := ifO_some h
  rw [Bool.and_eq_true] at h2
  obtain ⟨hl, h15⟩ := h2
  have hl : ks.length = values.length := eq_of_beq hl
  have h15 := of_decide_eq_true h15
  obtain ⟨a, g1, h⟩ := obind h
  obtain ⟨b, g2, h⟩ := omap h
  subst h
  have e := unSome_of h1
  subst e
  obtain ⟨_, la, _⟩ := seqP_ok (fun e p hp => hT.p e p hp) g1
  obtain ⟨_, lb, _⟩ := seqP_ok (fun e p hp => hT.p e p hp) g2
  have hz : ((psL a).map (ev cl)).length = ((psL b).map (ev cl)).length := by rw [List.length_map, List.length_map, lenPs_psL, lenPs_psL, la, lb, hl]
  refine pp_disp (fk := evs cl a) (fv := evs cl b) (pps_ok (fun e p hp => hT.p e p hp) g1 g2 hl) (by simp) (by rw [List.length_map]; exact hl) (fun z => ?_) (by rw [List.length_map]; exact h15.2) (fun env ds hd => ?_) fun env ds hd => ?_
  · have := congrArg List.length z
    rw [List.length_map] at this
    simp at this
    have h1 := h15.1
    rw [this] at h1
    simp at h1
  · rw [← evs_map hd]
    have : ∀ {l m : List (RE.Env → Out D)}, l.length = m.length → (l.zip m).map (fun p => p.1 env) = l.map (fun f => f env) := by
      intro l
      induction l with
      | nil => intro m _; rfl
      | cons x l ih =>
        intro m hm
        cases m with
        | nil => cases hm
        | cons y m => exact congrArg _ (ih (by simpa using hm))
    exact this hz
  · rw [← evs_map hd]
    have : ∀ {l m : List (RE.Env → Out D)}, l.length = m.length → (l.zip m).map (fun p => p.2 env) = m.map (fun f => f env) := by
      intro l
      induction l with
      | nil => intro m hm; cases m with | nil => rfl | cons _ _ => cases hm
      | cons x l ih =>
        intro m hm
        cases m with
        | nil => cases hm
        | cons y m => exact congrArg _ (ih (by simpa using hm))
    exact this hz
theorem cTup_ok (hT : TrOk X fa cl T) {es : List Expr} {k : Nat} (h : cTup T es = some q) : PE X (.Tuple es k pos) (tP X fa (ev cl q)) := by
  obtain ⟨h1, h⟩ := ifO_some h
  obtain ⟨ps, h2, h⟩ := omap h
  subst h
  obtain ⟨g1, g2, g3⟩ := seqP_ok (fun e p hp => hT.p e p hp) h2
  exact pp_tup g1 fun env ds hd => by rw [evs_len hd, g2]; exact of_decide_eq_true h1
end
end RE
end

section
set_option linter.all false
set_option maxRecDepth 100000
set_option maxHeartbeats 4000000
/-! RE26: targets, sources, comprehensions; the knot. -/
namespace RE
open PySem PySem.Spec PyProof.Rows L2

def cTgNames (C : Ct) : List Expr → Option (List Nat)
  | [] => some []
  | .Name x _ :: r => ifO (C.loc x) ((C.ix x).bind fun i => (cTgNames C r).map (i :: ·))
  | _ => none
def cTg (C : Ct) : Expr → Option Tg
  | .Name x _ => ifO (C.loc x) ((C.ix x).map Tg.one)
  | .Tuple es _ _ => (cTgNames C es).map Tg.many
  | _ => none
section
variable {C : Ct} {X : Cx} {fa : Nat → Option Addr} {cl : Cl}
theorem cTgNames_ok (hC : CxOk C X fa cl) : ∀ {es : List Expr} {is : List Nat}, cTgNames C es = some is → PGs X es (gNames is) ∧ (assignEach es X.env).length = is.length ∧ (assignEach es X.env).findIdx? (·.1) = none
  | [], is, h => by cases h; exact ⟨pgs_nil, rfl, rfl⟩
  | .Name x p :: r, is, h => by
    obtain ⟨h1, h⟩ := ifO_some h
    obtain ⟨i, h2, h⟩ := obind h
    obtain ⟨js, h3, h⟩ := omap h
    subst h
    obtain ⟨g1, g2, g3⟩ := cTgNames_ok hC h3
    refine ⟨pgs_cons (pg_name (by rw [hC.N]; exact hC.nd) (hC.ix h2) (hC.loc h1) (hC.fn x h1)) g1 rfl, congrArg (· + 1) g2, ?_⟩
    show ((false, assign (.Name x p) X.env) :: assignEach r X.env).findIdx? (·.1) = none
    rw [List.findIdx?_cons]
    simp only [Bool.false_eq_true, if_false, g3]
    rfl
  | .BoolOp .. :: _, _, h | .NamedExpr .. :: _, _, h | .BinOp .. :: _, _, h | .UnaryOp .. :: _, _, h | .Lambda .. :: _, _, h | .IfExp .. :: _, _, h | .Dict .. :: _, _, h | .Set .. :: _, _, h | .ListComp .. :: _, _, h | .SetComp .. :: _, _, h | .DictComp .. :: _, _, h
  | .GeneratorExp .. :: _, _, h | .Await .. :: _, _, h | .Yield .. :: _, _, h | .YieldFrom .. :: _, _, h | .Compare .. :: _, _, h | .Call .. :: _, _, h | .FormattedValue .. :: _, _, h | .JoinedStr .. :: _, _, h | .Constant .. :: _, _, h | .Attribute .. :: _, _, h
  | .Subscript .. :: _, _, h | .Starred .. :: _, _, h | .List .. :: _, _, h | .Tuple .. :: _, _, h | .Slice .. :: _, _, h => by cases h
theorem cTg_ok (hC : CxOk C X fa cl) {e : Expr} {T : Tg} (h : cTg C e = some T) : PG X e (tG X fa T) := by
  unfold cTg at h
  split at h
  · obtain ⟨h1, h⟩ := ifO_some h
    obtain ⟨i, h2, h⟩ := omap h
    subst h
    exact tg_one (pg_name (by rw [hC.N]; exact hC.nd) (hC.ix h2) (hC.loc h1) (hC.fn _ h1))
  · obtain ⟨is, h2, h⟩ := omap h
    subst h
    obtain ⟨g1, g2, g3⟩ := cTgNames_ok hC h2
    exact tg_many hC.calm g1 g2 g3
  · cases h
end
def isTupE : Expr → Bool
  | .Tuple _ _ _ => true
  | _ => false
theorem isTupE_of {e : Expr} (h : isTupE e = true) : ∃ es k p, e = .Tuple es k p := by
  cases e <;> first | exact ⟨_, _, _, rfl⟩ | cases h
inductive SK where
  | rng | enum | zip
def srcs : List (Str × SK) := [("range", .rng), ("enumerate", .enum), ("zip", .zip)]
def skN : SK → Str
  | .rng => "range"
  | .enum => "enumerate"
  | .zip => "zip"
/-- a walking built-in's name -/
def cSK (C : Ct) (x : Str) : Option SK := ifO (C.glb x && C.bl.contains x) (srcs.lookup x)
theorem cSK_of {C : Ct} {X : Cx} {fa : Nat → Option Addr} {cl : Cl} (hC : CxOk C X fa cl) {x : Str} {k : SK} (h : cSK C x = some k) : Gl X x ∧ X.mg x = none ∧ x = skN k := by
  obtain ⟨h1, h⟩ := ifO_some h
  rw [Bool.and_eq_true] at h1
  refine ⟨hC.gl h1.1, hC.bl x (by simpa using h1.2), ?_⟩
  have hm := lookup_mem h
  unfold srcs at hm
  simp only [List.mem_cons, List.not_mem_nil, or_false, Prod.mk.injEq] at hm
  rcases hm with ⟨e, rfl⟩ | ⟨e, rfl⟩ | ⟨e, rfl⟩ <;> exact e
/-- what a name of a walking built-in and its arguments give -/
def cSrcK (r rp : Expr → Option P) (tg : Expr) (k : SK) (args : List Expr) : Option It := match k, args with
  | .rng, [a] => (seqP rp [a]).map It.rng
  | .rng, [a, b] => (seqP rp [a, b]).map It.rng
  | .enum, [a] => ifO (isTupE tg && notStar a) ((r a).map It.enum)
  | .zip, [a, b] => ifO (isTupE tg) ((seqP r [a, b]).map It.zip)
  | _, _ => none
def callOf : Expr → Option (Str × List Expr)
  | .Call (.Name x _) args [] _ => some (x, args)
  | _ => none
theorem callOf_of {e : Expr} {x : Str} {args : List Expr} (h : callOf e = some (x, args)) : ∃ p q, e = .Call (.Name x p) args [] q := by
  unfold callOf at h
  split at h
  · cases h; exact ⟨_, _, rfl⟩
  · cases h
def cSrc (C : Ct) (r rp : Expr → Option P) (tg e : Expr) : Option It := match (callOf e).bind fun c => (cSK C c.1).map fun k => (k, c.2) with
  | some (k, args) => cSrcK r rp tg k args
  | none => (r e).map It.val
section
variable {C : Ct} {X : Cx} {fa : Nat → Option Addr} {cl : Cl} {r rp : Expr → Option P} {tg e : Expr} {s : It}
theorem cSrcRng (hC : CxOk C X fa cl) (hp : ∀ e q, rp e = some q → PE X e (tP X fa (ev cl q))) {x : Str} (hg : Gl X "range") (hm : X.mg "range" = none) {args : List Expr} {p q : Pos} (h : cSrcK r rp tg .rng args = some s) : PI X tg (.Call (.Name "range" p) args [] q) (tI X fa (evI cl s)) := by
  unfold cSrcK at h
  split at h <;> first | (rename_i hk; cases hk; done) | skip
  · rename_i a _
    obtain ⟨ps, h1, h⟩ := omap h
    subst h
    obtain ⟨g1, g2, g3⟩ := seqP_ok hp h1
    have hs : notStar a = true := by simpa [noStar] using g3
    exact pi_rng1 hg hm g1 (fun env ds hd => by rw [evs_len hd, g2]; rfl) (star_of hs)
  · rename_i a b _
    obtain ⟨ps, h1, h⟩ := omap h
    subst h
    obtain ⟨g1, g2, g3⟩ := seqP_ok hp h1
    have hs : notStar a = true ∧ notStar b = true := by simpa [noStar] using g3
    exact pi_rng2 hg hm g1 (fun env ds hd => by rw [evs_len hd, g2]; rfl) (by rw [star_of hs.1, star_of hs.2]; rfl) (star_of hs.2)
  · cases h
theorem cSrcL_ok (hC : CxOk C X fa cl) (hp : ∀ e q, rp e = some q → PE X e (tP X fa (ev cl q))) (hr : ∀ e q, r e = some q → PE X e (tL X fa (ev cl q))) (h : cSrc C r rp tg e = some s) : PI X tg e (tIL X fa (evI cl s)) := by
  unfold cSrc at h
  split at h
  · rename_i k args hk
    obtain ⟨⟨x, as⟩, h1, h2⟩ := obind hk
    obtain ⟨k', h3, h4⟩ := omap h2
    cases h4
    obtain ⟨p, q, rfl⟩ := callOf_of h1
    obtain ⟨g1, g2, g3⟩ := cSK_of hC h3
    dsimp only at g1 g2 g3 h
    clear h3 h2 hk h1
    cases k with
    | rng =>
      have g3 : x = "range" := g3
      subst g3
      exact pi_low (cSrcRng (r := r) hC hp (x := "range") g1 g2 h)
    | enum =>
      have g3 : x = "enumerate" := g3
      subst g3
      unfold cSrcK at h
      split at h <;> first | (rename_i hk; cases hk; done) | (cases h; done) | skip
      obtain ⟨k1, h⟩ := ifO_some h
      rw [Bool.and_eq_true] at k1
      obtain ⟨y, k2, h⟩ := omap h
      subst h
      obtain ⟨es, kk, pp, rfl⟩ := isTupE_of k1.1
      exact pil_enum g1 g2 (pls_cons (hr _ _ k2) pls_nil (star_of k1.2)) (star_of k1.2)
    | zip =>
      have g3 : x = "zip" := g3
      subst g3
      unfold cSrcK at h
      split at h <;> first | (rename_i hk; cases hk; done) | (cases h; done) | skip
      obtain ⟨k1, h⟩ := ifO_some h
      obtain ⟨y, k2, h⟩ := omap h
      subst h
      obtain ⟨es, kk, pp, rfl⟩ := isTupE_of k1
      obtain ⟨l1, l2, l3⟩ := seqL_ok hr k2
      rename_i a b _ _
      have hs : notStar a = true ∧ notStar b = true := by simpa [noStar] using l3
      exact pil_zip g1 g2 l1 (star_of hs.1) (plain_of (by simpa [noStar] using hs.2))
  · obtain ⟨y, k2, h⟩ := omap h
    subst h
    exact pil_val (hr _ _ k2)
theorem cSrcP_ok (hC : CxOk C X fa cl) (hp : ∀ e q, rp e = some q → PE X e (tP X fa (ev cl q))) (h : cSrc C rp rp tg e = some s) : PI X tg e (tI X fa (evI cl s)) := by
  unfold cSrc at h
  split at h
  · rename_i k args hk
    obtain ⟨⟨x, as⟩, h1, h2⟩ := obind hk
    obtain ⟨k', h3, h4⟩ := omap h2
    cases h4
    obtain ⟨p, q, rfl⟩ := callOf_of h1
    obtain ⟨g1, g2, g3⟩ := cSK_of hC h3
    dsimp only at g1 g2 g3 h
    clear h3 h2 hk h1
    cases k with
    | rng =>
      have g3 : x = "range" := g3
      subst g3
      exact cSrcRng (r := rp) hC hp (x := "range") g1 g2 h
    | enum =>
      have g3 : x = "enumerate" := g3
      subst g3
      unfold cSrcK at h
      split at h <;> first | (rename_i hk; cases hk; done) | (cases h; done) | skip
      obtain ⟨k1, h⟩ := ifO_some h
      rw [Bool.and_eq_true] at k1
      obtain ⟨y, k2, h⟩ := omap h
      subst h
      obtain ⟨es, kk, pp, rfl⟩ := isTupE_of k1.1
      exact pi_enumP g1 g2 (pas_cons (hp _ _ k2) pas_nil (star_of k1.2)) (star_of k1.2)
    | zip =>
      have g3 : x = "zip" := g3
      subst g3
      unfold cSrcK at h
      split at h <;> first | (rename_i hk; cases hk; done) | (cases h; done) | skip
      obtain ⟨k1, h⟩ := ifO_some h
      obtain ⟨y, k2, h⟩ := omap h
      subst h
      obtain ⟨es, kk, pp, rfl⟩ := isTupE_of k1
      obtain ⟨l1, l2, l3⟩ := seqP_ok hp k2
      rename_i a b _ _
      have hs : notStar a = true ∧ notStar b = true := by simpa [noStar] using l3
      exact pi_zipP g1 g2 l1 (star_of hs.1) (plain_of (by simpa [noStar] using hs.2))
  · obtain ⟨y, k2, h⟩ := omap h
    subst h
    exact pi_valP (hp _ _ k2)
end

/-! ### comprehensions -/
def ownOf (N : List Str) (scope : Scope) : List (Str × Nat) := scope.names.filterMap fun p => match p.2 with
  | .local => (N.findIdx? (· == p.1)).map fun i => (p.1, i)
  | .cell => (N.findIdx? (· == p.1)).map fun i => (p.1, i)
  | _ => none
def cIfs (B : Tr) : List Expr → Option P
  | [] => some (.con (.bl true))
  | [c] => B.t c
  | _ => none
/-- what a comprehension of one clause is made of -/
structure CompP where
  T : Tg
  src : It
  cond : P
  own : List (Str × Nat)
def cComp (C : Ct) (T B : Tr) (tg iter : Expr) (ifs : List Expr) (scope : Scope) : Option CompP :=
  ifO (blkC C.N C.sc scope (ownOf C.N scope) && notSet iter) ((cTg (C.inBlk scope) tg).bind fun T' => ifO ((tgI T').all fun i => ((ownOf C.N scope).map (·.2)).contains i) ((cSrc C T.l T.p tg iter).bind fun src => (cIfs B ifs).map fun c => ⟨T', src, c, ownOf C.N scope⟩))
/-- what is known of such a comprehension -/
structure CompOk (X : Cx) (fa : Nat → Option Addr) (cl : Cl) (tg iter : Expr) (ifs : List Expr) (scope : Scope) (R : CompP) : Prop where
  hi : PI X tg iter (tIL X fa (evI cl R.src))
  ok : BlkOk X.N X.env.scope scope R.own
  ht : ∀ i ∈ tgI R.T, i ∈ R.own.map (·.2)
  hg : ∀ (s : Shared) (H : Hp) (A : Addr) (cells : List (Str × Addr)) (fp : List Addr), PG (X.blk s H scope (compEnvC scope cells A X.env) fp) tg (tG X fa R.T)
  hp : ∀ (s : Shared) (H : Hp) (A : Addr) (cells : List (Str × Addr)) (fp : List Addr), PTs (X.blk s H scope (compEnvC scope cells A X.env) fp) ifs (tT X fa (ev cl R.cond))
  hs : ∀ x, foldedSetIterable iter X.env x = pure x
theorem cComp_ok {C : Ct} {X : Cx} {fa : Nat → Option Addr} {cl : Cl} {T B : Tr} (hC : CxOk C X fa cl) (hT : TrOk X fa cl T) {scope : Scope} (hB : ∀ (s : Shared) (H : Hp) (A : Addr) (cells : List (Str × Addr)) (fp : List Addr), TrOk (X.blk s H scope (compEnvC scope cells A X.env) fp) fa cl B) {tg iter : Expr} {ifs : List Expr} {R : CompP}
    (h : cComp C T B tg iter ifs scope = some R) : CompOk X fa cl tg iter ifs scope R := by
  obtain ⟨h1, h⟩ := ifO_some h
  rw [Bool.and_eq_true] at h1
  obtain ⟨T', h2, h⟩ := obind h
  obtain ⟨h3, h⟩ := ifO_some h
  obtain ⟨src, h4, h⟩ := obind h
  obtain ⟨c, h5, h⟩ := omap h
  subst h
  refine ⟨cSrcL_ok hC hT.p hT.l h4, ?_, fun i hi => ?_, fun s H A cells fp => ?_, fun s H A cells fp => ?_, notSet_fold h1.2⟩
  · rw [hC.N, hC.sc]
    exact blkOk_by h1.1
  · have := List.all_eq_true.mp h3 i hi
    simpa using this
  · exact cTg_ok (hC.blk scope s H A cells fp) h2
  · unfold cIfs at h5
    split at h5
    · cases h5
      exact pts_none (X := X.blk s H scope (compEnvC scope cells A X.env) fp) (fa := fa)
    · exact pts_one ((hB s H A cells fp).t _ _ h5)
    · cases h5

/-! ### fresh lists -/
def cFBlt (T : Tr) (k : BK) (args : List Expr) : Option F := match k, args with
  | .list, [a] => ifO (notStar a) ((T.l a).map fun y => .op .list (ps1 y))
  | .sorted, [a] => ifO (notStar a) ((T.l a).map fun y => .op .sorted (ps1 y))
  | _, _ => none
def cFCall (C : Ct) (T : Tr) (x : Str) (args : List Expr) : Option F := ifO (okN x && C.glb x) (match C.fs.lookup x with
  | some (k + 2, i, np) => match args with
    | [] => none
    | a :: as => (seqP T.p (a :: as)).bind fun ps => ifO (lenPs ps == np) (some (.call i ps))
  | some _ => none
  | none => ifO (C.bl.contains x) ((bls.lookup x).bind fun k => cFBlt T k args))
def cF (C : Ct) (T : Tr) (B : Scope → Tr) : Expr → Option F
  | .List es _ => ifO (decide (es.length ≤ 1000)) ((seqP T.p es).map F.lst)
  | .BinOp a .Add b _ => (T.l a).bind fun x => (T.l b).map fun y => .op .cat (ps2 x y)
  | .BinOp a .Mult b _ => (T.l a).bind fun x => (T.l b).map fun y => .op .rep (ps2 x y)
  | .Call (.Name x _) args [] _ => cFCall C T x args
  | .ListComp elt [⟨tg, iter, ifs, 0⟩] scope _ => (cComp C T (B scope) tg iter ifs scope).bind fun R => ((B scope).p elt).map fun el => .comp el R.cond R.T R.src (R.own.map (·.2))
  | _ => none
section
variable {C : Ct} {X : Cx} {fa : Nat → Option Addr} {cl : Cl} {T : Tr} {B : Scope → Tr} {e : Expr} {q : F}
theorem cFBlt_ok (hC : CxOk C X fa cl) (hT : TrOk X fa cl T) {x : Str} {args : List Expr} {p0 pos : Pos} {k : BK} (hk : bls.lookup x = some k) (hg : Gl X x) (hm : X.mg x = none) (ho : okN x = true) (h : cFBlt T k args = some q) : PE X (.Call (.Name x p0) args [] pos) (tF X fa (evF cl q)) := by
  have bk := bk_of (X := X) (fa := fa) hC.calm hk
  obtain ⟨n1, n2, n3⟩ := okN_1 ho
  unfold cFBlt at h
  split at h
  · obtain ⟨hs, h⟩ := ifO_some h
    obtain ⟨y, h4, h⟩ := omap h
    subst h
    have e : evF cl (.op .list (ps1 y)) = fun env => (ev cl y env).bind fList := by
      funext env
      show (evs cl (ps1 y) env).bind _ = _
      rw [evs1]
      rfl
    rw [e]
    exact pf_callT1 call_listD hg hm bk (hT.l _ _ h4) n2 n1 (star_of hs)
  · obtain ⟨hs, h⟩ := ifO_some h
    obtain ⟨y, h4, h⟩ := omap h
    subst h
    have e : evF cl (.op .sorted (ps1 y)) = fun env => (ev cl y env).bind fSorted := by
      funext env
      show (evs cl (ps1 y) env).bind _ = _
      rw [evs1]
      rfl
    rw [e]
    exact pf_callB1 (call_sortedD' hC.un) hg hm bk (hT.l _ _ h4) n2 n1 (star_of hs)
  · cases h
theorem cFCall_ok (hC : CxOk C X fa cl) (hT : TrOk X fa cl T) {x : Str} {args : List Expr} {p0 pos : Pos} (h : cFCall C T x args = some q) : PE X (.Call (.Name x p0) args [] pos) (tF X fa (evF cl q)) := by
  obtain ⟨h1, h⟩ := ifO_some h
  rw [Bool.and_eq_true] at h1
  obtain ⟨n1, n2, n3⟩ := okN_1 h1.1
  have hg := hC.gl h1.2
  split at h
  · rename_i k i np hf
    have hc := hC.fs _ _ _ _ hf
    split at h
    · cases h
    · rename_i a as
      obtain ⟨ps, h2, h⟩ := obind h
      obtain ⟨h3, h⟩ := ifO_some h
      cases h
      have h3 : lenPs ps = np := eq_of_beq h3
      obtain ⟨g1, g2, g3⟩ := seqP_ok (fun e p hp => hT.p e p hp) h2
      unfold noStar at g3
      rw [List.all_cons, Bool.and_eq_true] at g3
      exact pf_call hc hg g1 (fun env ds hd => by rw [evs_len hd, h3]) n1 (star_of g3.1) (plain_of g3.2)
  · cases h
  · obtain ⟨h2, h⟩ := ifO_some h
    obtain ⟨k, h3, h⟩ := obind h
    exact cFBlt_ok hC hT h3 hg (hC.bl _ (by simpa using h2)) h1.1 h
theorem cF_ok (hC : CxOk C X fa cl) (hT : TrOk X fa cl T) (hB : ∀ (scope : Scope) (s : Shared) (H : Hp) (A : Addr) (cells : List (Str × Addr)) (fp : List Addr), TrOk (X.blk s H scope (compEnvC scope cells A X.env) fp) fa cl (B scope)) (h : cF C T B e = some q) : PE X e (tF X fa (evF cl q)) := by
  unfold cF at h
  split at h
  · obtain ⟨h1, h⟩ := ifO_some h
    obtain ⟨ps, h2, h⟩ := omap h
    subst h
    obtain ⟨g1, g2, g3⟩ := seqP_ok (fun e p hp => hT.p e p hp) h2
    exact pf_lst g1 fun env ds hd => by rw [evs_len hd, g2]; exact of_decide_eq_true h1
  · obtain ⟨x, h1, h⟩ := obind h
    obtain ⟨y, h2, h⟩ := omap h
    subst h
    have e : evF cl (.op .cat (ps2 x y)) = fun env => (ev cl x env).bind fun x => (ev cl y env).bind fun y => fCat x y := by
      funext env
      show (evs cl (ps2 x y) env).bind _ = _
      rw [evs2]
      rfl
    rw [e]
    exact pf_bin op_catF (hT.l _ _ h1) (hT.l _ _ h2)
  · obtain ⟨x, h1, h⟩ := obind h
    obtain ⟨y, h2, h⟩ := omap h
    subst h
    have e : evF cl (.op .rep (ps2 x y)) = fun env => (ev cl x env).bind fun x => (ev cl y env).bind fun y => fRep x y := by
      funext env
      show (evs cl (ps2 x y) env).bind _ = _
      rw [evs2]
      rfl
    rw [e]
    exact pf_bin op_repF (hT.l _ _ h1) (hT.l _ _ h2)
  · exact cFCall_ok hC hT h
  · rename_i elt tg iter ifs scope pos
    obtain ⟨R, h1, h⟩ := obind h
    obtain ⟨el, h2, h⟩ := omap h
    subst h
    have k := cComp_ok hC hT (hB scope) h1
    exact pf_comp hC.calm (by rw [hC.N]; exact hC.nd) k.hi k.ok k.ht k.hg k.hp (fun s H A cells fp => (hB scope s H A cells fp).p _ _ h2) k.hs
  · cases h
end

/-! ### the knot -/
def cP (C : Ct) (T : Tr) (B : Scope → Tr) (e : Expr) : Option P := match e with
  | .Constant c _ _ => cConst c
  | .Name x _ => cName C x
  | .BinOp a o b _ => cBin T o a b
  | .UnaryOp o a _ => cUn T o a
  | .BoolOp .And es _ => cAnd T.p es
  | .BoolOp .Or es _ => cOr T.p es
  | .Compare a os bs _ => cCmp T a os bs
  | .IfExp c a b _ => cIte T T.p c a b
  | .Call (.Name x _) args [] _ => match cCall C T x args with
    | some p => some p
    | none => (cFCall C T x args).map P.new
  | .Call (.Attribute o m apos) args [] pos => cMeth T o m apos args pos
  | .Subscript e i _ => cSub T e i
  | .Tuple es _ _ => cTup T es
  | .Dict ks vs _ => cDict T ks vs
  | .List _ _ => (cF C T B e).map P.new
  | .ListComp _ _ _ _ => (cF C T B e).map P.new
  | _ => none
def cL (C : Ct) (T : Tr) (B : Scope → Tr) (e : Expr) : Option P := match e with
  | .Name x _ => cNameL C x
  | _ => cP C T B e
def cT (C : Ct) (T : Tr) (B : Scope → Tr) (e : Expr) : Option P := match e with
  | .BoolOp .And es _ => cAnd T.t es
  | .BoolOp .Or es _ => cOr T.t es
  | .UnaryOp .Not a _ => (T.t a).map P.not
  | .IfExp c a b _ => cIte T T.t c a b
  | .Compare a os bs _ => cCmp T a os bs
  | _ => ifO (plainT e) (cL C T B e)
def trN : Tr := ⟨fun _ => none, fun _ => none, fun _ => none, fun _ => none⟩
def tr : Nat → Ct → Tr
  | 0, _ => trN
  | n + 1, C => ⟨cP C (tr n C) fun s => tr n (C.inBlk s), cL C (tr n C) fun s => tr n (C.inBlk s), cT C (tr n C) fun s => tr n (C.inBlk s), cF C (tr n C) fun s => tr n (C.inBlk s)⟩
section
variable {C : Ct} {X : Cx} {fa : Nat → Option Addr} {cl : Cl} {T : Tr} {B : Scope → Tr} {e : Expr} {q : P}
theorem new_ev (f : F) : ev cl (.new f) = fun env => (evF cl f env).bind fun ds => .ok (.lst ds) := rfl
theorem cP_ok (hC : CxOk C X fa cl) (hT : TrOk X fa cl T) (hB : ∀ (scope : Scope) (s : Shared) (H : Hp) (A : Addr) (cells : List (Str × Addr)) (fp : List Addr), TrOk (X.blk s H scope (compEnvC scope cells A X.env) fp) fa cl (B scope)) (h : cP C T B e = some q) : PE X e (tP X fa (ev cl q)) := by
  unfold cP at h
  split at h
  · exact cConst_ok h
  · exact cName_ok hC h
  · exact cBin_ok hT h
  · exact cUn_ok hT h
  · exact cAnd_ok hT.p h
  · exact cOr_ok hT.p h
  · exact (cCmp_ok hC.un hT h).1
  · exact cIte_ok hT h
  · split at h
    · cases h
      rename_i hc
      exact cCall_ok hC hT hc
    · obtain ⟨f, h1, h⟩ := omap h
      subst h
      exact pp_F (cFCall_ok hC hT h1)
  · exact cMeth_ok hC hT h
  · exact cSub_ok hC.un hT h
  · exact cTup_ok hT h
  · exact cDict_ok hT h
  · obtain ⟨f, h1, h⟩ := omap h
    subst h
    exact pp_F (cF_ok hC hT hB h1)
  · obtain ⟨f, h1, h⟩ := omap h
    subst h
    exact pp_F (cF_ok hC hT hB h1)
  · cases h
theorem cL_ok (hC : CxOk C X fa cl) (hT : TrOk X fa cl T) (hB : ∀ (scope : Scope) (s : Shared) (H : Hp) (A : Addr) (cells : List (Str × Addr)) (fp : List Addr), TrOk (X.blk s H scope (compEnvC scope cells A X.env) fp) fa cl (B scope)) (h : cL C T B e = some q) : PE X e (tL X fa (ev cl q)) := by
  unfold cL at h
  split at h
  · exact cNameL_ok hC h
  · exact pl_of (cP_ok hC hT hB h)
theorem cT_ok (hC : CxOk C X fa cl) (hT : TrOk X fa cl T) (hB : ∀ (scope : Scope) (s : Shared) (H : Hp) (A : Addr) (cells : List (Str × Addr)) (fp : List Addr), TrOk (X.blk s H scope (compEnvC scope cells A X.env) fp) fa cl (B scope)) (h : cT C T B e = some q) : PT X e (tT X fa (ev cl q)) := by
  unfold cT at h
  split at h
  · exact (cAndT_ok hT.t h).pt
  · exact (cOrT_ok hT.t h).pt
  · obtain ⟨y, h1, h⟩ := omap h
    subst h
    exact ptt_not (hT.t _ _ h1)
  · exact cIteT_ok hT h
  · exact (cCmp_ok hC.un hT h).2
  · obtain ⟨h1, h⟩ := ifO_some h
    exact pt_gen (cL_ok hC hT hB h) (plainT_of h1)
end
theorem tr_ok {fa : Nat → Option Addr} {cl : Cl} : ∀ (n : Nat) (C : Ct) (X : Cx), CxOk C X fa cl → TrOk X fa cl (tr n C)
  | 0, _, _, _ => ⟨(fun _ _ h => by cases h), (fun _ _ h => by cases h), (fun _ _ h => by cases h), (fun _ _ h => by cases h)⟩
  | n + 1, C, X, hC => by
    have hT := tr_ok n C X hC
    have hB : ∀ (scope : Scope) (s : Shared) (H : Hp) (A : Addr) (cells : List (Str × Addr)) (fp : List Addr), TrOk (X.blk s H scope (compEnvC scope cells A X.env) fp) fa cl (tr n (C.inBlk scope)) := fun scope s H A cells fp => tr_ok n _ _ (hC.blk scope s H A cells fp)
    exact ⟨fun e q h => cP_ok hC hT hB h, fun e q h => cL_ok hC hT hB h, fun e q h => cT_ok hC hT hB h, fun e q h => cF_ok hC hT hB h⟩
end RE
end

section
set_option linter.all false
set_option maxRecDepth 100000
set_option maxHeartbeats 4000000
/-! RE27: expressions that change a name's list. -/
namespace RE
open PySem PySem.Spec PyProof.Rows L2

section
variable {cl : Cl}
theorem runs_nil : runs cl .nil = fun env => .ok ([], env) := rfl
theorem runs_cons (e : M) (r : Ms) : runs cl (.cons e r) = mCons (run cl e) (runs cl r) := rfl
theorem run_pur (p : P) : run cl (.pur p) = mPur (ev cl p) := rfl
theorem run_not (a : M) : run cl (.not a) = mNot (run cl a) := rfl
theorem run_and (a b : M) : run cl (.and a b) = mAnd (run cl a) (run cl b) := rfl
theorem run_or (a b : M) : run cl (.or a b) = mOr (run cl a) (run cl b) := rfl
theorem run_ite (c : P) (a b : M) : run cl (.ite c a b) = mIte (ev cl c) (run cl a) (run cl b) := rfl
theorem run_tup (es : Ms) : run cl (.tup es) = fun env => (runs cl es env).bind fun x => .ok (.tup x.1, x.2) := rfl
theorem run_lst (es : Ms) : run cl (.lst es) = fun env => (runs cl es env).bind fun x => .ok (.lst x.1, x.2) := rfl
theorem run_call (f : Nat) (es : Ms) : run cl (.call f es) = fun env => (runs cl es env).bind fun x => (cl.f f x.1).bind fun d => .ok (d, x.2) := rfl
def ms1 (a : M) : Ms := .cons a .nil
def ms2 (a b : M) : Ms := .cons a (.cons b .nil)
theorem run_op1 {p : Op} (h : two p = true) (a : M) : run cl (.op p (ms1 a)) = mUn (run cl a) (op1 p) := by
  funext env
  show ((run cl a env).bind fun x => (Out.ok (([] : List D), x.2)).bind fun y => .ok (x.1 :: y.1, y.2)).bind (fun x => (op p x.1).bind fun d => .ok (d, x.2)) = _
  show _ = (run cl a env).bind _
  cases run cl a env with
  | ok x => show (op p [x.1]).bind _ = _; rw [op_one h]; rfl
  | exc _ _ => rfl
  | bad => rfl
theorem run_op2 {p : Op} (h : two p = true) (a b : M) : run cl (.op p (ms2 a b)) = mBin (run cl a) (run cl b) (op2 p) := by
  funext env
  show ((run cl a env).bind fun x => ((run cl b x.2).bind fun y => (Out.ok (([] : List D), y.2)).bind fun z => .ok (y.1 :: z.1, z.2)).bind fun y => .ok (x.1 :: y.1, y.2)).bind (fun x => (op p x.1).bind fun d => .ok (d, x.2)) = _
  show _ = (run cl a env).bind _
  cases run cl a env with
  | ok x =>
    show (((run cl b x.2).bind _).bind _).bind _ = (run cl b x.2).bind _
    cases run cl b x.2 with
    | ok y => show (op p [x.1, y.1]).bind _ = _; rw [op_two h]; rfl
    | exc _ _ => rfl
    | bad => rfl
  | exc _ _ => rfl
  | bad => rfl
end
structure TrM where
  m : Expr → Option M
  t : Expr → Option M
structure TrMOk (X : Cx) (fa : Nat → Option Addr) (cl : Cl) (R : TrM) : Prop where
  m : ∀ e q, R.m e = some q → PE X e (tM X fa (run cl q))
  t : ∀ e q, R.t e = some q → PT X e (tMT X fa (run cl q))
def seqM (r : Expr → Option M) : List Expr → Option Ms
  | [] => some .nil
  | e :: es => ifO (notStar e) ((r e).bind fun p => (seqM r es).bind fun ps => some (.cons p ps))
def lenMs : Ms → Nat
  | .nil => 0
  | .cons _ r => lenMs r + 1
theorem runs_len {cl : Cl} : ∀ {ms : Ms} {env : RE.Env} {ds : List D} {env1 : RE.Env}, runs cl ms env = .ok (ds, env1) → ds.length = lenMs ms
  | .nil, _, _, _, h => by cases h; rfl
  | .cons p r, env, ds, env1, h => by
    obtain ⟨⟨d, n1⟩, _, h1⟩ := Out.bind_eq_ok h
    obtain ⟨⟨es, n2⟩, h2, h3⟩ := Out.bind_eq_ok h1
    cases h3
    exact congrArg (· + 1) (runs_len h2)
section
variable {C : Ct} {X : Cx} {fa : Nat → Option Addr} {cl : Cl} {T : Tr} {R : TrM} {r : Expr → Option M}
theorem seqM_ok (hr : ∀ e p, r e = some p → PE X e (tM X fa (run cl p))) : ∀ {es : List Expr} {ps : Ms}, seqM r es = some ps → PA X es (tMs X fa (runs cl ps)) ∧ lenMs ps = es.length ∧ noStar es = true
  | [], ps, h => by cases h; exact ⟨pms_nil, rfl, rfl⟩
  | e :: es, ps, h => by
    obtain ⟨hs, h⟩ := ifO_some h
    obtain ⟨p, h1, h⟩ := obind h
    obtain ⟨qs, h2, h⟩ := obind h
    cases h
    obtain ⟨i1, i2, i3⟩ := seqM_ok hr h2
    exact ⟨pms_cons (hr e p h1) i1 (star_of hs), congrArg (· + 1) i2, by unfold noStar at i3 ⊢; rw [List.all_cons, hs, i3]; rfl⟩
end
def cAndM (r : Expr → Option M) : List Expr → Option M
  | [] => none
  | [a] => r a
  | a :: b :: rest => (r a).bind fun x => (cAndM r (b :: rest)).bind fun y => some (.and x y)
def cOrM (r : Expr → Option M) : List Expr → Option M
  | [] => none
  | [a] => r a
  | a :: b :: rest => (r a).bind fun x => (cOrM r (b :: rest)).bind fun y => some (.or x y)
/-- the slot of a name that stands as it is -/
def cSlot (C : Ct) : Expr → Option Nat
  | .Name x _ => ifO (okN x && C.vis x) (C.ix x)
  | _ => none
theorem cSlot_ok {C : Ct} {X : Cx} {fa : Nat → Option Addr} {cl : Cl} (hC : CxOk C X fa cl) {e : Expr} {i : Nat} (h : cSlot C e = some i) : PE X e (tVar i) ∧ notStar e = true ∧ notCall0 e = true := by
  unfold cSlot at h
  split at h
  · obtain ⟨h1, h⟩ := ifO_some h
    rw [Bool.and_eq_true] at h1
    exact ⟨cVar_ok hC h1.2 h1.1 h, rfl, rfl⟩
  · cases h
def cMBlt (R : TrM) (k : BK) (args : List Expr) : Option M := match k, args with
  | .b1 _ o, [a] => ifO (notStar a) ((R.m a).map fun x => .op o (ms1 x))
  | .t1 _ o, [a] => ifO (notStar a) ((R.m a).map fun x => .op o (ms1 x))
  | .b2 _ o, [a, b] => ifO (notStar a && notStar b) ((R.m a).bind fun x => (R.m b).map fun y => .op o (ms2 x y))
  | _, _ => none
def cMCall (C : Ct) (R : TrM) (x : Str) (args : List Expr) : Option M := ifO (okN x && C.glb x) (match C.fs.lookup x with
  | some (0, i, np) => match args with
    | [] => none
    | a :: as => (seqM R.m (a :: as)).bind fun ps => ifO (lenMs ps == np) (some (.call i ps))
  | some (1, i, np) => match args with
    | [] => none
    | a :: as => (cSlot C a).bind fun j => (seqM R.m as).bind fun ps => ifO (lenMs ps + 1 == np) (some (.io i j ps))
  | some _ => none
  | none => ifO (C.bl.contains x) ((bls.lookup x).bind fun k => cMBlt R k args))
def cM1 (C : Ct) (T : Tr) (R : TrM) (e : Expr) : Option M := match e with
  | .BinOp a o b _ => (binO o).bind fun p => (R.m a).bind fun x => (R.m b).map fun y => .op p (ms2 x y)
  | .UnaryOp .Not a _ => (R.m a).map M.not
  | .UnaryOp .USub a _ => (R.m a).map fun x => .op .neg (ms1 x)
  | .BoolOp .And es _ => cAndM R.m es
  | .BoolOp .Or es _ => cOrM R.m es
  | .Compare a [o] [b] _ => ifO (notSet b) ((cmpO o).bind fun p => (R.m a).bind fun x => (R.m b).map fun y => .op p (ms2 x y))
  | .IfExp c a b _ => (T.t c).bind fun x => (R.m a).bind fun y => (R.m b).map fun z => .ite x y z
  | .Call (.Name x _) args [] _ => cMCall C R x args
  | .Subscript a i _ => ifO (notSlice i) ((R.m a).bind fun x => (R.m i).map fun y => .op .idx (ms2 x y))
  | .Tuple es _ _ => ifO (decide (es.length ≤ 1000)) ((seqM R.m es).map M.tup)
  | .List es _ => ifO (decide (es.length ≤ 1000)) ((seqM R.m es).map M.lst)
  | _ => none
def cM (C : Ct) (T : Tr) (R : TrM) (e : Expr) : Option M := match T.p e with
  | some p => some (.pur p)
  | none => cM1 C T R e
def cMT1 (C : Ct) (T : Tr) (R : TrM) (e : Expr) : Option M := match e with
  | .BoolOp .And es _ => cAndM R.t es
  | .BoolOp .Or es _ => cOrM R.t es
  | .UnaryOp .Not a _ => (R.t a).map M.not
  | .Compare a [o] [b] _ => ifO (notSet b) ((cmpO o).bind fun p => (R.m a).bind fun x => (R.m b).map fun y => .op p (ms2 x y))
  | _ => ifO (plainT e) (cM C T R e)
def cMT (C : Ct) (T : Tr) (R : TrM) (e : Expr) : Option M := match T.t e with
  | some p => some (.pur p)
  | none => cMT1 C T R e
def trm (C : Ct) (T : Tr) : Nat → TrM
  | 0 => ⟨fun _ => none, fun _ => none⟩
  | n + 1 => ⟨cM C T (trm C T n), cMT C T (trm C T n)⟩
section
variable {C : Ct} {X : Cx} {fa : Nat → Option Addr} {cl : Cl} {T : Tr} {R : TrM} {e a b : Expr} {q : M} {pos p0 : Pos}
theorem cAndM_ok {r : Expr → Option M} (hr : ∀ e q, r e = some q → PE X e (tM X fa (run cl q))) : ∀ {es : List Expr} {q : M}, cAndM r es = some q → PE X (.BoolOp .And es pos) (tM X fa (run cl q))
  | [], _, h => by cases h
  | [a], q, h => pe_one (hr a q h)
  | a :: b :: rest, q, h => by
    obtain ⟨x, h1, h⟩ := obind h
    obtain ⟨y, h2, h⟩ := obind h
    cases h
    exact pm_and (hr a x h1) (cAndM_ok hr h2)
theorem cOrM_ok {r : Expr → Option M} (hr : ∀ e q, r e = some q → PE X e (tM X fa (run cl q))) : ∀ {es : List Expr} {q : M}, cOrM r es = some q → PE X (.BoolOp .Or es pos) (tM X fa (run cl q))
  | [], _, h => by cases h
  | [a], q, h => pe_one (hr a q h)
  | a :: b :: rest, q, h => by
    obtain ⟨x, h1, h⟩ := obind h
    obtain ⟨y, h2, h⟩ := obind h
    cases h
    exact pm_or (hr a x h1) (cOrM_ok hr h2)
theorem cAndMT_ok {r : Expr → Option M} (hr : ∀ e q, r e = some q → PT X e (tMT X fa (run cl q))) : ∀ {es : List Expr} {q : M}, cAndM r es = some q → PW X (.BoolOp .And es pos) (tMT X fa (run cl q))
  | [], _, h => by cases h
  | [a], q, h => mtw_and1 (hr a q h)
  | a :: b :: rest, q, h => by
    obtain ⟨x, h1, h⟩ := obind h
    obtain ⟨y, h2, h⟩ := obind h
    cases h
    exact mtw_and (hr a x h1) (cAndMT_ok hr h2)
theorem cOrMT_ok {r : Expr → Option M} (hr : ∀ e q, r e = some q → PT X e (tMT X fa (run cl q))) : ∀ {es : List Expr} {q : M}, cOrM r es = some q → PW X (.BoolOp .Or es pos) (tMT X fa (run cl q))
  | [], _, h => by cases h
  | [a], q, h => mtw_or1 (hr a q h)
  | a :: b :: rest, q, h => by
    obtain ⟨x, h1, h⟩ := obind h
    obtain ⟨y, h2, h⟩ := obind h
    cases h
    exact mtw_or (hr a x h1) (cOrMT_ok hr h2)
theorem cMBlt_ok (hC : CxOk C X fa cl) (hR : TrMOk X fa cl R) {x : Str} {args : List Expr} {k : BK} (hk : bls.lookup x = some k) (hg : Gl X x) (hm : X.mg x = none) (ho : okN x = true) (h : cMBlt R k args = some q) : PE X (.Call (.Name x p0) args [] pos) (tM X fa (run cl q)) := by
  have hb := bk_of (X := X) (fa := fa) hC.calm hk
  obtain ⟨n1, n2, n3⟩ := okN_1 ho
  unfold cMBlt at h
  split at h
  · obtain ⟨h1, h2, h3⟩ := hb
    obtain ⟨hs, h⟩ := ifO_some h
    obtain ⟨y, h4, h⟩ := omap h
    subst h
    rw [run_op1 h3]
    exact pm_callB1 h2 hg hm h1 (hR.m _ _ h4) n2 n1 (star_of hs)
  · obtain ⟨h1, h2, h3⟩ := hb
    obtain ⟨hs, h⟩ := ifO_some h
    obtain ⟨y, h4, h⟩ := omap h
    subst h
    rw [run_op1 h3]
    exact pm_callT1 h2 hg hm h1 (hR.m _ _ h4) n2 n1 (star_of hs)
  · obtain ⟨h1, h2, h3⟩ := hb
    obtain ⟨hs, h⟩ := ifO_some h
    rw [Bool.and_eq_true] at hs
    obtain ⟨y, h4, h⟩ := obind h
    obtain ⟨z, h5, h⟩ := omap h
    subst h
    rw [run_op2 h3]
    exact pm_callB2 h2 hg hm h1 (hR.m _ _ h4) (hR.m _ _ h5) n2 n1 (star_of hs.1) (star_of hs.2)
  · cases h
theorem cMCall_ok (hC : CxOk C X fa cl) (hR : TrMOk X fa cl R) {x : Str} {args : List Expr} (h : cMCall C R x args = some q) : PE X (.Call (.Name x p0) args [] pos) (tM X fa (run cl q)) := by
  obtain ⟨h1, h⟩ := ifO_some h
  rw [Bool.and_eq_true] at h1
  obtain ⟨n1, n2, n3⟩ := okN_1 h1.1
  have hg := hC.gl h1.2
  split at h
  · rename_i i np hf
    have hc := hC.fs _ _ _ _ hf
    split at h
    · cases h
    · rename_i a as
      obtain ⟨ps, h2, h⟩ := obind h
      obtain ⟨h3, h⟩ := ifO_some h
      cases h
      have h3 : lenMs ps = np := eq_of_beq h3
      obtain ⟨g1, g2, g3⟩ := seqM_ok (fun e p hp => hR.m e p hp) h2
      unfold noStar at g3
      rw [List.all_cons, Bool.and_eq_true] at g3
      rw [run_call]
      exact pm_call hc hg g1 (fun env ds env1 hd => by rw [runs_len hd, h3]) n1 (star_of g3.1) (plain_of g3.2)
  · rename_i i np hf
    have hc := hC.fs _ _ _ _ hf
    split at h
    · cases h
    · rename_i a as
      obtain ⟨j, h4, h⟩ := obind h
      obtain ⟨ps, h2, h⟩ := obind h
      obtain ⟨h3, h⟩ := ifO_some h
      cases h
      have h3 : lenMs ps + 1 = np := eq_of_beq h3
      obtain ⟨g1, g2, g3⟩ := seqM_ok (fun e p hp => hR.m e p hp) h2
      obtain ⟨k1, k2, _⟩ := cSlot_ok hC h4
      exact pm_io hc hg k1 g1 (fun env ds env1 hd => by rw [runs_len hd, h3]) n1 (star_of k2) (plain_of g3)
  · cases h
  · obtain ⟨h2, h⟩ := ifO_some h
    obtain ⟨k, h3, h⟩ := obind h
    exact cMBlt_ok hC hR h3 hg (hC.bl _ (by simpa using h2)) h1.1 h
theorem cM1_ok (hC : CxOk C X fa cl) (hT : TrOk X fa cl T) (hR : TrMOk X fa cl R) (h : cM1 C T R e = some q) : PE X e (tM X fa (run cl q)) := by
  unfold cM1 at h
  split at h
  · obtain ⟨p, h1, h⟩ := obind h
    obtain ⟨x, h2, h⟩ := obind h
    obtain ⟨y, h3, h⟩ := omap h
    subst h
    obtain ⟨g1, g2⟩ := binO_ok (X := X) (fa := fa) h1
    rw [run_op2 g2]
    exact pm_bin g1 (hR.m _ _ h2) (hR.m _ _ h3)
  · obtain ⟨x, h2, h⟩ := omap h
    subst h
    exact pm_not (hR.m _ _ h2)
  · obtain ⟨x, h2, h⟩ := omap h
    subst h
    rw [run_op1 rfl]
    exact pm_un un_negD (hR.m _ _ h2)
  · exact cAndM_ok hR.m h
  · exact cOrM_ok hR.m h
  · obtain ⟨hn, h⟩ := ifO_some h
    obtain ⟨p, h1, h⟩ := obind h
    obtain ⟨x, h2, h⟩ := obind h
    obtain ⟨y, h3, h⟩ := omap h
    subst h
    obtain ⟨g1, g2, g3⟩ := cmpO_ok (X := X) (fa := fa) hC.un h1
    rw [run_op2 g2]
    exact pm_cmp g1 (hR.m _ _ h2) (hR.m _ _ h3) (notSet_in hn _)
  · obtain ⟨x, h1, h⟩ := obind h
    obtain ⟨y, h2, h⟩ := obind h
    obtain ⟨z, h3, h⟩ := omap h
    subst h
    exact pm_ite (hT.t _ _ h1) (hR.m _ _ h2) (hR.m _ _ h3)
  · exact cMCall_ok hC hR h
  · obtain ⟨hn, h⟩ := ifO_some h
    obtain ⟨x, h2, h⟩ := obind h
    obtain ⟨y, h3, h⟩ := omap h
    subst h
    rw [run_op2 rfl]
    exact pm_ix (ix_all (by have := hC.un; omega)) (hR.m _ _ h2) (hR.m _ _ h3) (plainIx_of hn)
  · obtain ⟨h1, h⟩ := ifO_some h
    obtain ⟨ps, h2, h⟩ := omap h
    subst h
    obtain ⟨g1, g2, g3⟩ := seqM_ok (fun e p hp => hR.m e p hp) h2
    exact pm_tup g1 fun env ds env1 hd => by rw [runs_len hd, g2]; exact of_decide_eq_true h1
  · obtain ⟨h1, h⟩ := ifO_some h
    obtain ⟨ps, h2, h⟩ := omap h
    subst h
    obtain ⟨g1, g2, g3⟩ := seqM_ok (fun e p hp => hR.m e p hp) h2
    exact pm_lst g1 fun env ds env1 hd => by rw [runs_len hd, g2]; exact of_decide_eq_true h1
  · cases h
theorem cM_ok (hC : CxOk C X fa cl) (hT : TrOk X fa cl T) (hR : TrMOk X fa cl R) (h : cM C T R e = some q) : PE X e (tM X fa (run cl q)) := by
  unfold cM at h
  split at h
  · cases h
    exact pm_pur (hT.p _ _ ‹_›)
  · exact cM1_ok hC hT hR h
theorem cMT1_ok (hC : CxOk C X fa cl) (hT : TrOk X fa cl T) (hR : TrMOk X fa cl R) (h : cMT1 C T R e = some q) : PT X e (tMT X fa (run cl q)) := by
  unfold cMT1 at h
  split at h
  · exact (cAndMT_ok hR.t h).pt
  · exact (cOrMT_ok hR.t h).pt
  · obtain ⟨x, h2, h⟩ := omap h
    subst h
    exact mt_not (hR.t _ _ h2)
  · obtain ⟨hn, h⟩ := ifO_some h
    obtain ⟨p, h1, h⟩ := obind h
    obtain ⟨x, h2, h⟩ := obind h
    obtain ⟨y, h3, h⟩ := omap h
    subst h
    obtain ⟨g1, g2, g3⟩ := cmpO_ok (X := X) (fa := fa) hC.un h1
    rw [run_op2 g2]
    exact mt_bin g1 (hR.m _ _ h2) (hR.m _ _ h3) (notSet_in hn _) g3
  · obtain ⟨h1, h⟩ := ifO_some h
    exact mt_gen (cM_ok hC hT hR h) (plainT_of h1)
theorem cMT_ok (hC : CxOk C X fa cl) (hT : TrOk X fa cl T) (hR : TrMOk X fa cl R) (h : cMT C T R e = some q) : PT X e (tMT X fa (run cl q)) := by
  unfold cMT at h
  split at h
  · cases h
    exact mt_pur (hT.t _ _ ‹_›)
  · exact cMT1_ok hC hT hR h
theorem trm_ok (hC : CxOk C X fa cl) (hT : TrOk X fa cl T) : ∀ n, TrMOk X fa cl (trm C T n)
  | 0 => ⟨(fun _ _ h => by cases h), (fun _ _ h => by cases h)⟩
  | n + 1 => ⟨fun e q h => cM_ok hC hT (trm_ok hC hT n) h, fun e q h => cMT_ok hC hT (trm_ok hC hT n) h⟩
end
end RE
end

section
set_option linter.all false
set_option maxRecDepth 100000
set_option maxHeartbeats 4000000
/-! RE28: statements from the text. -/
namespace RE
open PySem PySem.Spec PyProof.Rows L2

/-! ### the names that an expression takes as they are -/
mutual
def vP (ll : List Nat) : P → List Nat
  | .con _ => []
  | .var i => [i]
  | .bvar i => if ll.contains i then [i] else []
  | .tup es => vPs ll es
  | .new f => vF ll f
  | .op _ es => vPs ll es
  | .and a b => vP ll a ++ vP ll b
  | .or a b => vP ll a ++ vP ll b
  | .not a => vP ll a
  | .ite c a b => vP ll c ++ vP ll a ++ vP ll b
  | .chain _ _ a b c => vP ll a ++ vP ll b ++ vP ll c
  | .call _ es => vPs ll es
  | .dic a b => vPs ll a ++ vPs ll b
def vPs (ll : List Nat) : Ps → List Nat
  | .nil => []
  | .cons e r => vP ll e ++ vPs ll r
def vF (ll : List Nat) : F → List Nat
  | .lst es => vPs ll es
  | .op _ es => vPs ll es
  | .call _ es => vPs ll es
  | .comp a b _ s _ => vP ll a ++ vP ll b ++ vI ll s
  | .comp2 a b _ s c _ s1 _ _ => vP ll a ++ vP ll b ++ vP ll c ++ vI ll s ++ vI ll s1
def vI (ll : List Nat) : It → List Nat
  | .val e => vP ll e
  | .rng es => vPs ll es
  | .enum e => vP ll e
  | .zip es => vPs ll es
  | .items e => vP ll e
end
mutual
def vM (ll : List Nat) : M → List Nat
  | .pur p => vP ll p
  | .op _ es => vMs ll es
  | .tup es => vMs ll es
  | .lst es => vMs ll es
  | .ite c a b => vP ll c ++ vM ll a ++ vM ll b
  | .not a => vM ll a
  | .and a b => vM ll a ++ vM ll b
  | .or a b => vM ll a ++ vM ll b
  | .call _ es => vMs ll es
  | .io _ _ es => vMs ll es
  | .pop _ => []
  | .popAt _ i => vM ll i
def vMs (ll : List Nat) : Ms → List Nat
  | .nil => []
  | .cons e r => vM ll e ++ vMs ll r
end
def vR (ll : List Nat) : Rhs → List Nat
  | .val e => vM ll e
  | .own f => vF ll f
  | .dic _ => []
def vT (ll : List Nat) : Tgt → List Nat
  | .name _ => []
  | .sub _ a => vP ll a
  | .sub2 _ a b => vP ll a ++ vP ll b
def vSrc (ll : List Nat) : Src → List Nat
  | .pur s => vI ll s
  | .rng es => vMs ll es
def frzs : List Nat → S → S
  | [], s => s
  | i :: is, s => .frz i (frzs is s)
def wrS (C : Ct) (vs : List Nat) (s : S) : S := frzs ((vs.filter fun i => C.mu.contains i || C.ll.contains i).eraseDups) s
def Ct.prB (C : Ct) (i : Nat) : Bool := C.pr.contains i
structure SOk (C : Ct) (X : Cx) (fa : Nat → Option Addr) (cl : Cl) : Prop extends CxOk C X fa cl where
  own : PassesOwn (model X.prog X.w) X.A X.env X.xe
  fk : X.env.scope.kind = .function
/-- a statement does what its translation tells -/
abbrev StOk (C : Ct) (X : Cx) (fa : Nat → Option Addr) (cl : Cl) (fu : Nat) (st : Stmt) (s : S) : Prop := PS X st (tS X fa C.prB (exec cl fu s))
section
variable {C : Ct} {X : Cx} {fa : Nat → Option Addr} {cl : Cl} {T : Tr} {R : TrM} {fu : Nat} {st : Stmt} {s : S}
theorem s_frzs (h : StOk C X fa cl fu st s) : ∀ is : List Nat, StOk C X fa cl fu st (frzs is s)
  | [] => h
  | i :: is => s_frz (s_frzs h is)
theorem s_wr (h : StOk C X fa cl fu st s) (vs : List Nat) : StOk C X fa cl fu st (wrS C vs s) := s_frzs h _
end

/-! ### right sides and targets -/
def cRhs (C : Ct) (T : Tr) (R : TrM) (x : Option (Str × Nat)) (e : Expr) : Option Rhs := match e, x with
  | .Dict [] [] _, some (y, _) => some (.dic (C.dt.contains y))
  | _, some (_, i) => (match C.mu.contains i, T.f e with
    | true, some f => some (.own f)
    | _, _ => (R.m e).map Rhs.val)
  | _, none => (R.m e).map Rhs.val
def cTgt (C : Ct) (T : Tr) (e : Expr) : Option Tgt := match e with
  | .Name x _ => ifO (okN x && C.loc x) ((C.ix x).bind fun i => ifO (!C.prB i) (some (.name i)))
  | .Subscript o k _ => ifO (notSlice k) (match cSlot C o with
    | some i => (T.p k).map fun a => .sub i a
    | none => match o with
      | .Subscript o' k' _ => ifO (notSlice k') ((cSlot C o').bind fun i => (T.p k').bind fun a => (T.p k).map fun b => .sub2 i a b)
      | _ => none)
  | _ => none
def tgtN : Expr → Tgt → Option (Str × Nat)
  | .Name x _, .name i => some (x, i)
  | _, _ => none
section
variable {C : Ct} {X : Cx} {fa : Nat → Option Addr} {cl : Cl} {T : Tr} {R : TrM} {fu : Nat} {st : Stmt} {s : S} {e o k : Expr} {pos p2 : Pos}
theorem cRhs_ok (hT : TrOk X fa cl T) (hR : TrMOk X fa cl R) {x : Option (Str × Nat)} {r : Rhs} (h : cRhs C T R x e = some r) : PE X e (tR X fa (evR cl r)) := by
  unfold cRhs at h
  split at h
  · cases h; exact pr_dic _
  · split at h
    · cases h; exact pr_own (hT.f _ _ ‹_›)
    · obtain ⟨m, h1, h⟩ := omap h
      subst h
      exact pr_val (hR.m _ _ h1)
  · obtain ⟨m, h1, h⟩ := omap h
    subst h
    exact pr_val (hR.m _ _ h1)
theorem asgSub {v : Value} {env : PySem.Env} (h : notSlice k = true) : assign (.Subscript o k pos) env v = (do
      let ov ← holding [v] (eval o env)
      let iv ← holding [v, ov] (eval k env)
      standAt pos
      holding [v, ov, iv] (setItem ov iv v)
      release [v, ov, iv] []) := by
  cases k <;> first | rfl | cases h
theorem ix_lt (hC : CxOk C X fa cl) {x : Str} {i : Nat} (h : C.ix x = some i) : i < X.N.length := (List.getElem?_eq_some_iff.mp (hC.ix h)).1
theorem cTgt_ok (hC : CxOk C X fa cl) (hT : TrOk X fa cl T) {t : Tgt} (h : cTgt C T e = some t) : PG X e (tGt X fa C.prB (store cl t)) ∧ notStar e = true := by
  unfold cTgt at h
  split at h
  · rename_i x p
    obtain ⟨h1, h⟩ := ifO_some h
    rw [Bool.and_eq_true] at h1
    obtain ⟨i, h2, h⟩ := obind h
    obtain ⟨h3, h⟩ := ifO_some h
    cases h
    have e1 : store cl (.name i) = fName i := by funext rv env; cases rv <;> rfl
    rw [e1]
    exact ⟨gt_name (by simpa using h3) (ix_lt hC h2) (pg_name (by rw [hC.N]; exact hC.nd) (hC.ix h2) (hC.loc h1.2) (hC.fn x h1.2)), rfl⟩
  · rename_i o k p
    obtain ⟨hn, h⟩ := ifO_some h
    split at h
    · rename_i i hs
      obtain ⟨a, h1, h⟩ := omap h
      subst h
      have e1 : store cl (.sub i a) = fSub (ev cl a) i := by funext rv env; cases rv <;> rfl
      rw [e1]
      exact ⟨gt_sub (by have := hC.un; omega) (cSlot_ok hC hs).1 (hT.p _ _ h1) (fun v => asgSub hn), rfl⟩
    · split at h
      · rename_i o' k' p'
        obtain ⟨hn', h⟩ := ifO_some h
        obtain ⟨i, hs, h⟩ := obind h
        obtain ⟨a, h1, h⟩ := obind h
        obtain ⟨b, h2, h⟩ := omap h
        subst h
        have e1 : store cl (.sub2 i a b) = fSub2 (ev cl a) (ev cl b) i := by funext rv env; cases rv <;> rfl
        rw [e1]
        exact ⟨gt_sub2 (cSlot_ok hC hs).1 (hT.p _ _ h1) (plainIx_of hn') (hT.p _ _ h2) (fun v => asgSub hn), rfl⟩
      · cases h
  · cases h
end
/-- not a comprehension -/
def notComp : Expr → Bool
  | .ListComp _ _ _ _ => false
  | .SetComp _ _ _ _ => false
  | .DictComp _ _ _ _ _ => false
  | _ => true
theorem sw_notComp {e : Expr} {t : Option Expr} {l : Nat} {env : PySem.Env} (h : notComp e = true) : swapsWith e t l env = pure false := by
  cases e <;> first | rfl | cases h
/-- a comprehension that is set in the usual way -/
def swNo (C : Ct) (x : Str) : Expr → Bool
  | .ListComp _ _ _ _ => C.sc.names.lookup x == some .cell
  | .SetComp _ _ _ _ => false
  | .DictComp _ _ _ _ _ => false
  | _ => true
theorem sw_No {C : Ct} {X : Cx} {fa : Nat → Option Addr} {cl : Cl} (hC : CxOk C X fa cl) {x : Str} {p : Pos} {e : Expr} {l : Nat} (h : swNo C x e = true) : swapsWith e (some (.Name x p)) l X.env = pure false := by
  cases e <;> first | rfl | (cases h; done) | skip
  have hk : X.env.kindOf x = some .cell := by
    show X.env.scope.names.lookup x = _
    rw [hC.sc]
    exact eq_of_beq h
  unfold swapsWith
  simp only [hk]
  have e1 : (some NameKind.cell == some NameKind.local) = false := by decide
  simp only [e1, Bool.and_false, Bool.false_and]
/-- .. that is set by its own rule -/
def swYes (C : Ct) (x : Str) (p : Pos) : Expr → Bool
  | .ListComp _ _ scope pos => C.sc.names.lookup x == some .local && p.line == pos.line && !(scope.names.any fun q => q.1 == x && (q.2 == .local || q.2 == .cell))
  | _ => false
section
variable {C : Ct} {X : Cx} {fa : Nat → Option Addr} {cl : Cl} {T : Tr} {R : TrM} {fu : Nat} {st : Stmt} {s : S} {e o k : Expr} {pos p2 : Pos}
theorem asg1 {t : Expr} {tt : Tgt} {r : Rhs} (hC : CxOk C X fa cl) (hT : TrOk X fa cl T) (he : PE X e (tR X fa (evR cl r))) (hg : PG X t (tGt X fa C.prB (store cl tt)))
    (hs : swapsWithSole [t] e pos.line X.env = pure false) (hw : swappedStores [t] e X.env = pure none) (h1 : (assignEach [t] X.env).map (·.2) = [assign t X.env]) : PS X (.Assign [t] e pos) (tS X fa C.prB fun env => (evR cl r env).bind fun x => (store cl tt x.1 x.2).bind fun env2 => .ok (.nx, env2)) :=
  s_asg (ps_asg he hg hs hw h1)

/-! ### name = e -/
def cSetA (C : Ct) (T : Tr) (R : TrM) (x : Str) (i : Nat) (e : Expr) : Option S := (cRhs C T R (some (x, i)) e).map fun r => wrS C (vR C.ll r) (.set i r)
theorem cSetA_ok (hC : SOk C X fa cl) (hT : TrOk X fa cl T) (hR : TrMOk X fa cl R) {x : Str} {i : Nat} {p : Pos} (ho : okN x = true) (hl : C.loc x = true) (hi : C.ix x = some i) (hp : C.prB i = false) (hs : swNo C x e = true) (h : cSetA C T R x i e = some s) : StOk C X fa cl fu (.Assign [.Name x p] e pos) s := by
  obtain ⟨r, h1, h⟩ := omap h
  subst h
  refine s_wr ?_ _
  have e1 : store cl (.name i) = fName i := by funext rv env; cases rv <;> rfl
  have hg : PG X (.Name x p) (tGt X fa C.prB (store cl (.name i))) := by
    rw [e1]
    exact gt_name hp (ix_lt hC.toCxOk hi) (pg_name (by rw [hC.N]; exact hC.nd) (hC.ix hi) (hC.loc hl) (hC.fn x hl))
  have e2 : exec cl fu (.set i r) = fun env => (evR cl r env).bind fun x => (store cl (.name i) x.1 x.2).bind fun env2 => .ok (.nx, env2) := by
    rw [e1]; rfl
  show PS X _ (tS X fa C.prB (exec cl fu (.set i r)))
  rw [e2]
  exact asg1 hC.toCxOk hT (cRhs_ok hT hR h1) hg (sw_No (l := pos.line) hC.toCxOk hs) rfl rfl
/-- name = [.. for ..] by its own rule, as a list of the name's own or as a value -/
def cSetLc (C : Ct) (T : Tr) (B : Scope → Tr) (i : Nat) (e : Expr) : Option S := match e with
  | .ListComp elt [⟨tg, iter, ifs, 0⟩] scope _ => (cComp C T (B scope) tg iter ifs scope).bind fun K => match C.ll.contains i, ifs with
    | true, [] => ((B scope).f elt).map fun el => wrS C (vF C.ll el ++ vI C.ll K.src) (.setLL i el K.T K.src (K.own.map (·.2)))
    | _, _ => ((B scope).p elt).map fun el => match C.mu.contains i with
      | true => wrS C (vP C.ll el ++ vP C.ll K.cond ++ vI C.ll K.src) (.set i (.own (.comp el K.cond K.T K.src (K.own.map (·.2)))))
      | false => wrS C (vP C.ll el ++ vP C.ll K.cond ++ vI C.ll K.src) (.set i (.val (.pur (.new (.comp el K.cond K.T K.src (K.own.map (·.2)))))))
  | _ => none
theorem cSetLc_ok (hC : SOk C X fa cl) (hT : TrOk X fa cl T) {B : Scope → Tr} (hB : ∀ (scope : Scope) (s : Shared) (H : Hp) (A : Addr) (cells : List (Str × Addr)) (fp : List Addr), TrOk (X.blk s H scope (compEnvC scope cells A X.env) fp) fa cl (B scope)) {x : Str} {i : Nat} {p : Pos} (hi : C.ix x = some i) (hp : C.prB i = false)
    (hs : swYes C x p e = true) (h : cSetLc C T B i e = some s) : StOk C X fa cl fu (.Assign [.Name x p] e pos) s := by
  unfold cSetLc at h
  split at h <;> try (cases h; done)
  rename_i elt tg iter ifs scope cpos
  obtain ⟨K, h1, h⟩ := obind h
  have k := cComp_ok hC.toCxOk hT (hB scope) h1
  unfold swYes at hs
  simp only [Bool.and_eq_true, Bool.not_eq_true'] at hs
  obtain ⟨⟨s1, s2⟩, s3⟩ := hs
  have hloc : X.env.scope.names.lookup x = some .local := by rw [hC.sc]; exact eq_of_beq s1
  have hil := ix_lt hC.toCxOk hi
  have sw : ∀ l, swapsWith (.ListComp elt [⟨tg, iter, ifs, 0⟩] scope cpos) (some (.Name x p)) l X.env = pure true := fun l => sw_true hC.fk hloc s2 s3
  have gen : ∀ {te : TE}, (∀ (s : Shared) (H : Hp) (A : Addr) (cells : List (Str × Addr)) (fp : List Addr), PE (X.blk s H scope (compEnvC scope cells A X.env) fp) elt te) → PS X (.Assign [.Name x p] (.ListComp elt [⟨tg, iter, ifs, 0⟩] scope cpos) pos) (tAsg (tLc (tIL X fa (evI cl K.src)) (tG X fa K.T) (tT X fa (ev cl K.cond)) te (K.own.map (·.2))) (gName i)) := fun he =>
    ps_setLc hC.calm (by rw [hC.N]; exact hC.nd) (hC.ix hi) hloc (sw _) k.hi k.ok k.hg k.hp he k.hs
  split at h
  · obtain ⟨el, h2, h⟩ := omap h
    subst h
    refine s_wr ?_ _
    have hcond : K.cond = .con (.bl true) := by
      obtain ⟨_, h1⟩ := ifO_some h1
      obtain ⟨T', _, h1⟩ := obind h1
      obtain ⟨_, h1⟩ := ifO_some h1
      obtain ⟨src, _, h1⟩ := obind h1
      obtain ⟨c, h5, h1⟩ := omap h1
      subst h1
      cases h5
      rfl
    rw [hcond] at gen
    have e2 : exec cl fu (.setLL i el K.T K.src (K.own.map (·.2))) = fun env => ((fun env => (evI cl K.src env).bind fun items => chk (inLim items.length) (mapO (fBodyF (evF cl el) K.T (K.own.map (·.2)) env) items)) env).bind fun dss => .ok (.nx, env.set i (.own (.lls dss))) := by
      funext env
      show (evI cl K.src env).bind _ = ((evI cl K.src env).bind _).bind _
      cases evI cl K.src env with
      | ok items =>
        show chk (inLim items.length) _ = (chk (inLim items.length) _).bind _
        cases inLim items.length <;> rfl
      | exc _ _ => rfl
      | bad => rfl
    show PS X _ (tS X fa C.prB (exec cl fu (.setLL i el K.T K.src (K.own.map (·.2)))))
    rw [e2]
    exact s_setLL hp hil (gen fun s H A cells fp => (hB scope s H A cells fp).f _ _ h2) fun σ H Q hh => ll_imp k.ht hh
  · obtain ⟨el, h2, h⟩ := omap h
    subst h
    have ht : ∀ σ H Q, tF X fa (fComp (evI cl K.src) (ev cl K.cond) (ev cl el) K.T (K.own.map (·.2))) σ H Q → tLc (tIL X fa (evI cl K.src)) (tG X fa K.T) (tT X fa (ev cl K.cond)) (tP X fa (ev cl el)) (K.own.map (·.2)) σ H Q := fun σ H Q hh => lc_imp k.ht hh
    split
    · refine s_wr ?_ _
      exact s_asg (asg_lc hp hil (gen fun s H A cells fp => (hB scope s H A cells fp).p _ _ h2) ht fun σ H Q hh => r_ownI hh)
    · refine s_wr ?_ _
      exact s_asg (asg_lc hp hil (gen fun s H A cells fp => (hB scope s H A cells fp).p _ _ h2) ht fun σ H Q hh => r_newI hh)
end
end RE
end

section
set_option linter.all false
set_option maxRecDepth 100000
set_option maxHeartbeats 4000000
/-! RE29: assignments side by side. -/
namespace RE
open PySem PySem.Spec PyProof.Rows L2

def lineOf (ts : List Expr) : Nat := (ts.head?.map (·.pos.line)).getD 0
def plainOn (C : Ct) (line : Nat) : Expr → Option Str
  | .Name id pos => if (C.sc.names.lookup id == some .local && pos.line == line) = true then some id else none
  | _ => none
/-- the stores go the usual way -/
def swOff (C : Ct) (ts vs : List Expr) : Bool := !(ts.length == 2 || ts.length == 3) || (ts.filterMap (plainOn C (lineOf ts))).length != ts.length || vs.all (foldedForSure 8)
/-- .. from the right: plain names of the def on one line -/
def swOn (C : Ct) (ts vs : List Expr) : Bool := (ts.length == 2 || ts.length == 3) && (ts.filterMap (plainOn C (lineOf ts))).length == ts.length && (ts.filterMap (plainOn C (lineOf ts))).eraseDups.length == ts.length && !vs.all (foldedForSure 8) && !vs.all (constantsAlone 8)
section
variable {C : Ct} {X : Cx} {fa : Nat → Option Addr} {cl : Cl}
theorem sw_shape (ts vs : List Expr) (k k2 : Nat) (p p2 : Pos) (env : PySem.Env) : ∃ (F : Expr → Option Str) (G : Expr → Bool),
    (∀ e, F e = match e with | .Name id pos => if (env.kindOf id == some NameKind.local && pos.line == lineOf ts) = true then some id else none | _ => none) ∧ (∀ e, G e = !notStar e) ∧
    swappedStores [.Tuple ts k p] (.Tuple vs k2 p2) env = (if (!(ts.length == 2 || ts.length == 3) || vs.length != ts.length || env.blockKind != ScopeKind.function) = true then pure none
      else if (vs.any G) = true then pure none
      else if ((ts.filterMap F).length != ts.length || (ts.filterMap F).eraseDups.length != (ts.filterMap F).length) = true then pure none
      else if vs.all (foldedForSure 8) = true then pure none
      else if vs.all (constantsAlone 8) = true then (do unsupported "assign.tuple-of-constant-expressions:order-of-the-stores"; pure (some (ts.filterMap F)))
      else pure (some (ts.filterMap F))) := by
  unfold swappedStores
  dsimp only
  refine ⟨_, _, ?_, ?_, rfl⟩
  · intro e; cases e <;> rfl
  · intro e; cases e <;> rfl
theorem fm_eq (hC : CxOk C X fa cl) {ts : List Expr} {F : Expr → Option Str} (hF : ∀ e, F e = match e with | .Name id pos => if (X.env.kindOf id == some NameKind.local && pos.line == lineOf ts) = true then some id else none | _ => none) : F = plainOn C (lineOf ts) := by
  funext e
  rw [hF]
  cases e <;> try rfl
  show (if (X.env.scope.names.lookup _ == _ && _) = true then _ else _) = _
  rw [hC.sc]
  rfl
theorem bkind (hf : X.env.scope.kind = .function) : (X.env.blockKind != .function) = false := by
  unfold Env.blockKind
  rw [hf]
  rfl
theorem noStar_any {G : Expr → Bool} (hG : ∀ e, G e = !notStar e) : ∀ {vs : List Expr}, noStar vs = true → vs.any G = false
  | [], _ => rfl
  | v :: vs, h => by
    unfold noStar at h
    rw [List.all_cons, Bool.and_eq_true] at h
    rw [List.any_cons, noStar_any hG h.2, hG, h.1]
    rfl
theorem sw_off (hC : CxOk C X fa cl) (hf : X.env.scope.kind = .function) {ts vs : List Expr} {k k2 : Nat} {p p2 : Pos} (hs : noStar vs = true) (hl : vs.length = ts.length) (h : swOff C ts vs = true) : swappedStores [.Tuple ts k p] (.Tuple vs k2 p2) X.env = pure none := by
  obtain ⟨F, G, hF, hG, e⟩ := sw_shape ts vs k k2 p p2 X.env
  rw [e, fm_eq hC hF, bkind hf, noStar_any hG hs, hl]
  clear e
  unfold swOff at h
  cases h1 : (ts.length == 2 || ts.length == 3) with
  | false => rfl
  | true =>
    have e1 : (ts.length != ts.length) = false := by simp
    rw [h1] at h
    simp only [e1, Bool.not_true, Bool.or_false, Bool.false_eq_true, if_false, Bool.false_or] at h ⊢
    cases h2 : ((ts.filterMap (plainOn C (lineOf ts))).length != ts.length) with
    | true => simp [h2]
    | false =>
      rw [h2] at h
      have h3 : vs.all (foldedForSure 8) = true := by simpa using h
      simp only [h2, h3, Bool.false_or]
      split <;> rfl
theorem sw_on (hC : CxOk C X fa cl) (hf : X.env.scope.kind = .function) {ts vs : List Expr} {k k2 : Nat} {p p2 : Pos} (hs : noStar vs = true) (hl : vs.length = ts.length) (h : swOn C ts vs = true) : swappedStores [.Tuple ts k p] (.Tuple vs k2 p2) X.env = pure (some (ts.filterMap (plainOn C (lineOf ts)))) := by
  obtain ⟨F, G, hF, hG, e⟩ := sw_shape ts vs k k2 p p2 X.env
  rw [e, fm_eq hC hF, bkind hf, noStar_any hG hs, hl]
  clear e
  unfold swOn at h
  simp only [Bool.and_eq_true, Bool.not_eq_true'] at h
  obtain ⟨⟨⟨⟨h1, h2⟩, h3⟩, h4⟩, h5⟩ := h
  have e1 : (ts.length != ts.length) = false := by simp
  have h2 := eq_of_beq h2
  have h3 := eq_of_beq h3
  have e2 : ((ts.filterMap (plainOn C (lineOf ts))).length != ts.length || (ts.filterMap (plainOn C (lineOf ts))).eraseDups.length != (ts.filterMap (plainOn C (lineOf ts))).length) = false := by
    rw [h3, h2]; simp
  simp only [h1, e1, e2, h4, h5, Bool.not_true, Bool.or_false, Bool.false_eq_true, if_false]
end

/-! ### (t, ..) = (e, ..) -/
def cPar (C : Ct) (T : Tr) (R : TrM) : List Expr → List Expr → Option (List (Tgt × Rhs))
  | [], [] => some []
  | t :: ts, e :: es => ifO (notStar e) ((cTgt C T t).bind fun tt => (cRhs C T R (tgtN t tt) e).bind fun r => (cPar C T R ts es).map ((tt, r) :: ·))
  | _, _ => none
def nm2 : List Expr → Option (Str × Str)
  | [.Name x _, .Name y _] => some (x, y)
  | _ => none
def nm3 : List Expr → Option (Str × Str × Str)
  | [.Name x _, .Name y _, .Name z _] => some (x, y, z)
  | _ => none
def isLoc (C : Ct) (x : Str) : Bool := C.sc.names.lookup x == some .local
/-- the forms of the stores -/
def parOk (C : Ct) (ts es : List Expr) : Bool := swOff C ts es || (swOn C ts es && (match nm2 ts with
  | some (x, y) => (ts.filterMap (plainOn C (lineOf ts)) == [x, y]) && x != y && isLoc C x && isLoc C y
  | none => match nm3 ts with
    | some (x, y, z) => (ts.filterMap (plainOn C (lineOf ts)) == [x, y, z]) && x != y && x != z && y != z && isLoc C x && isLoc C y && isLoc C z
    | none => false))
def cParS (C : Ct) (T : Tr) (R : TrM) (ts es : List Expr) : Option S := ifO (parOk C ts es && decide (ts.length ≤ 1000)) ((cPar C T R ts es).map fun l => wrS C ((l.map fun p => vT C.ll p.1 ++ vR C.ll p.2).flatten) (.par l))
section
variable {C : Ct} {X : Cx} {fa : Nat → Option Addr} {cl : Cl} {T : Tr} {R : TrM} {fu : Nat} {s : S}
theorem evRs_cons (t : Tgt) (r : Rhs) (l : List (Tgt × Rhs)) : evRs cl ((t, r) :: l) = rCons (evR cl r) (evRs cl l) := rfl
theorem stores_cons (t : Tgt) (r : Rhs) (l : List (Tgt × Rhs)) : stores cl ((t, r) :: l) = gCons' (store cl t) (stores cl l) := by
  funext rvs env
  cases rvs <;> rfl
theorem stores_nil : stores cl [] = fNil := by
  funext rvs env
  cases rvs <;> rfl
theorem store_name (i : Nat) : store cl (.name i) = fName i := by funext rv env; cases rv <;> rfl
theorem evRs_len : ∀ {l : List (Tgt × Rhs)} {env env1 : RE.Env} {rvs : List RV}, evRs cl l env = .ok (rvs, env1) → rvs.length = l.length
  | [], _, _, _, h => by cases h; rfl
  | (t, r) :: l, env, env1, rvs, h => by
    obtain ⟨⟨v, n1⟩, _, h2⟩ := Out.bind_eq_ok h
    obtain ⟨⟨vs, n2⟩, h3, h4⟩ := Out.bind_eq_ok h2
    cases h4
    exact congrArg (· + 1) (evRs_len h3)
theorem cPar_ok (hC : SOk C X fa cl) (hT : TrOk X fa cl T) (hR : TrMOk X fa cl R) : ∀ {ts es : List Expr} {l : List (Tgt × Rhs)}, cPar C T R ts es = some l →
    PA X es (tRs X fa (evRs cl l)) ∧ PGs X ts (tGts X fa C.prB (stores cl l)) ∧ l.length = ts.length ∧ es.length = ts.length ∧ noStar es = true ∧ (assignEach ts X.env).length = ts.length ∧ (assignEach ts X.env).findIdx? (·.1) = none
  | [], [], l, h => by cases h; rw [stores_nil]; exact ⟨prs_nil, gts_nil, rfl, rfl, rfl, rfl, rfl⟩
  | t :: ts, e :: es, l, h => by
    obtain ⟨hs, h⟩ := ifO_some h
    obtain ⟨tt, h1, h⟩ := obind h
    obtain ⟨r, h2, h⟩ := obind h
    obtain ⟨l', h3, h⟩ := omap h
    subst h
    obtain ⟨g1, g2, g3, g4, g5, g6, g7⟩ := cPar_ok hC hT hR h3
    obtain ⟨k1, k2⟩ := cTgt_ok hC.toCxOk hT h1
    rw [evRs_cons, stores_cons]
    have as : assignEach (t :: ts) X.env = (false, assign t X.env) :: assignEach ts X.env := starTg k2
    refine ⟨prs_cons (cRhs_ok hT hR h2) g1 (star_of hs), gts_cons k1 g2 (by rw [as]; rfl), congrArg (· + 1) g3, congrArg (· + 1) g4, ?_, ?_, ?_⟩
    · unfold noStar at g5 ⊢; rw [List.all_cons, hs, g5]; rfl
    · rw [as]; exact congrArg (· + 1) g6
    · rw [as, List.findIdx?_cons]
      simp only [Bool.false_eq_true, if_false, g7]
      rfl
  | [], _ :: _, l, h => by cases h
  | _ :: _, [], l, h => by cases h
theorem nm2_of {ts : List Expr} {x y : Str} (h : nm2 ts = some (x, y)) : ∃ p q, ts = [.Name x p, .Name y q] := by
  unfold nm2 at h
  split at h
  · cases h; exact ⟨_, _, rfl⟩
  · cases h
theorem nm3_of {ts : List Expr} {x y z : Str} (h : nm3 ts = some (x, y, z)) : ∃ p q r, ts = [.Name x p, .Name y q, .Name z r] := by
  unfold nm3 at h
  split at h
  · cases h; exact ⟨_, _, _, rfl⟩
  · cases h
theorem cTgtN {x : Str} {p : Pos} {t : Tgt} (h : cTgt C T (.Name x p) = some t) : ∃ i, t = .name i ∧ C.ix x = some i ∧ C.prB i = false := by
  obtain ⟨_, h⟩ := ifO_some h
  obtain ⟨i, h2, h⟩ := obind h
  obtain ⟨h3, h⟩ := ifO_some h
  cases h
  exact ⟨i, rfl, h2, by simpa using h3⟩
theorem ix_ne (hC : CxOk C X fa cl) {x y : Str} {i j : Nat} (hi : C.ix x = some i) (hj : C.ix y = some j) (h : x ≠ y) : i ≠ j := fun e => by
  have a := hC.ix hi
  have b := hC.ix hj
  rw [e] at a
  rw [a] at b
  exact h (Option.some.inj b)
theorem isLoc_of (hC : CxOk C X fa cl) {x : Str} (h : isLoc C x = true) : X.env.scope.names.lookup x = some .local := by
  rw [hC.sc]
  exact eq_of_beq h
theorem cParS_ok (hC : SOk C X fa cl) (hT : TrOk X fa cl T) (hR : TrMOk X fa cl R) {ts es : List Expr} {k k2 : Nat} {pt pe pos : Pos} (h : cParS C T R ts es = some s) : StOk C X fa cl fu (.Assign [.Tuple ts k pt] (.Tuple es k2 pe) pos) s := by
  obtain ⟨h1, h⟩ := ifO_some h
  rw [Bool.and_eq_true] at h1
  obtain ⟨l, h2, h⟩ := omap h
  subst h
  obtain ⟨g1, g2, g3, g4, g5, g6, g7⟩ := cPar_ok hC hT hR h2
  refine s_wr ?_ _
  obtain ⟨h1, hz⟩ := h1
  rcases Bool.or_eq_true_iff.mp h1 with h1 | h1
  · exact s_par (frs := evRs cl l) (fts := stores cl l) hC.calm g1 g2 (fun env rvs env1 hd => by rw [evRs_len hd, g3]) (of_decide_eq_true hz) g6 g7 rfl (sw_off hC.toCxOk hC.fk g5 g4 h1) rfl
  · rw [Bool.and_eq_true] at h1
    obtain ⟨ho, h1⟩ := h1
    have hw := sw_on (k := k) (k2 := k2) (p := pt) (p2 := pe) hC.toCxOk hC.fk g5 g4 ho
    split at h1
    · rename_i x y hn
      obtain ⟨p, q, rfl⟩ := nm2_of hn
      simp only [Bool.and_eq_true, bne_iff_ne] at h1
      obtain ⟨⟨⟨f1, f2⟩, f3⟩, f4⟩ := h1
      rw [eq_of_beq f1] at hw
      match es, h2, g4 with
      | [a, b], h2, _ =>
        obtain ⟨_, h2⟩ := ifO_some h2
        obtain ⟨t1, m1, h2⟩ := obind h2
        obtain ⟨r1, m2, h2⟩ := obind h2
        obtain ⟨l1, m3, h2⟩ := omap h2
        subst h2
        obtain ⟨_, m3⟩ := ifO_some m3
        obtain ⟨t2, m4, m3⟩ := obind m3
        obtain ⟨r2, m5, m3⟩ := obind m3
        obtain ⟨l2, m6, m3⟩ := omap m3
        subst m3
        cases m6
        obtain ⟨i, rfl, i1, i2⟩ := cTgtN m1
        obtain ⟨j, rfl, j1, j2⟩ := cTgtN m4
        have e : stores cl [(.name i, r1), (.name j, r2)] = gCons' (fName i) (gCons' (fName j) fNil) := by rw [stores_cons, stores_cons, stores_nil, store_name, store_name]
        have := s_par2 (X := X) (fa := fa) (pr := C.prB) i2 j2 (ix_lt hC.toCxOk i1) (ix_lt hC.toCxOk j1) (fun {ta} ha => ps_par (pos := pos) hC.calm (by rw [hC.N]; exact hC.nd) (hC.ix i1) (hC.ix j1) (ix_ne hC.toCxOk i1 j1 f2) (isLoc_of hC.toCxOk f3) (isLoc_of hC.toCxOk f4) ha hw rfl) g1
        rw [← e] at this
        exact this
    · split at h1
      · rename_i x y z hn
        obtain ⟨p, q, r, rfl⟩ := nm3_of hn
        simp only [Bool.and_eq_true, bne_iff_ne] at h1
        obtain ⟨⟨⟨⟨⟨⟨f1, f2⟩, f3⟩, f4⟩, f5⟩, f6⟩, f7⟩ := h1
        rw [eq_of_beq f1] at hw
        match es, h2, g4 with
        | [a, b, c], h2, _ =>
          obtain ⟨_, h2⟩ := ifO_some h2
          obtain ⟨t1, m1, h2⟩ := obind h2
          obtain ⟨r1, m2, h2⟩ := obind h2
          obtain ⟨l1, m3, h2⟩ := omap h2
          subst h2
          obtain ⟨_, m3⟩ := ifO_some m3
          obtain ⟨t2, m4, m3⟩ := obind m3
          obtain ⟨r2, m5, m3⟩ := obind m3
          obtain ⟨l2, m6, m3⟩ := omap m3
          subst m3
          obtain ⟨_, m6⟩ := ifO_some m6
          obtain ⟨t3, m7, m6⟩ := obind m6
          obtain ⟨r3, m8, m6⟩ := obind m6
          obtain ⟨l3, m9, m6⟩ := omap m6
          subst m6
          cases m9
          obtain ⟨i, rfl, i1, i2⟩ := cTgtN m1
          obtain ⟨j, rfl, j1, j2⟩ := cTgtN m4
          obtain ⟨n, rfl, n1, n2⟩ := cTgtN m7
          have e : stores cl [(.name i, r1), (.name j, r2), (.name n, r3)] = gCons' (fName i) (gCons' (fName j) (gCons' (fName n) fNil)) := by rw [stores_cons, stores_cons, stores_cons, stores_nil, store_name, store_name, store_name]
          have := s_par3 (X := X) (fa := fa) (pr := C.prB) i2 j2 n2 (ix_lt hC.toCxOk i1) (ix_lt hC.toCxOk j1) (ix_lt hC.toCxOk n1) (fun {ta} ha => ps_par3 (pos := pos) hC.calm (by rw [hC.N]; exact hC.nd) (hC.ix i1) (hC.ix j1) (hC.ix n1) (ix_ne hC.toCxOk i1 j1 f2) (ix_ne hC.toCxOk i1 n1 f3) (ix_ne hC.toCxOk j1 n1 f4) (isLoc_of hC.toCxOk f5) (isLoc_of hC.toCxOk f6) (isLoc_of hC.toCxOk f7) ha hw rfl) g1
          rw [← e] at this
          exact this
      · cases h1
end
end RE
end

section
set_option linter.all false
set_option maxRecDepth 100000
set_option maxHeartbeats 4000000
/-! RE30: all statements; blocks. -/
namespace RE
open PySem PySem.Spec PyProof.Rows L2

def isStrE : Expr → Bool
  | .Constant (.str _) _ _ => true
  | _ => false
/-- x.append(e) -/
def appOf : Expr → Option (Expr × Pos × Expr × Pos)
  | .Call (.Attribute o m ap) [e] [] cp => ifO (m == "append") (some (o, ap, e, cp))
  | _ => none
def cApp (C : Ct) (T : Tr) (R : TrM) (o : Expr) (ap : Pos) (e : Expr) (cp : Pos) : Option S := ifO (notStar e && ap.endLine == cp.line) ((cSlot C o).bind fun i => match C.ll.contains i with
  | true => (T.f e).map fun f => wrS C (vF C.ll f) (.appF i f)
  | false => (R.m e).map fun m => wrS C (vM C.ll m) (.app i m))
def cExpr (C : Ct) (T : Tr) (R : TrM) (e : Expr) : Option S := match isStrE e, appOf e with
  | true, _ => some .pass
  | false, some (o, ap, a, cp) => cApp C T R o ap a cp
  | false, none => ifO (notComp e) ((R.m e).map fun m => wrS C (vM C.ll m) (.expr m))
def cUnp (C : Ct) (R : TrM) (t e : Expr) : Option S := ifO (notComp e && !isTupE e) ((cTg C t).bind fun T' => match T' with
  | .many is => ifO (is.all fun i => !C.prB i) ((R.m e).map fun m => wrS C (vM C.ll m) (.unpack is m))
  | _ => none)
def cAsgS (C : Ct) (T : Tr) (R : TrM) (t e : Expr) : Option S := ifO (notComp e) ((cTgt C T t).bind fun tt => (R.m e).map fun m => wrS C (vT C.ll tt ++ vM C.ll m) (.asg tt m))
def cName1 (C : Ct) (T : Tr) (B : Scope → Tr) (R : TrM) (x : Str) (p : Pos) (e : Expr) : Option S := ifO (okN x && C.loc x) ((C.ix x).bind fun i => ifO (!C.prB i) (match swYes C x p e with
  | true => cSetLc C T B i e
  | false => ifO (swNo C x e) (cSetA C T R x i e)))
def cAssign (C : Ct) (T : Tr) (B : Scope → Tr) (R : TrM) (t e : Expr) : Option S := match t with
  | .Name x p => cName1 C T B R x p e
  | .Tuple ts _ _ => (match e with
    | .Tuple es _ _ => cParS C T R ts es
    | _ => cUnp C R t e)
  | .Subscript _ _ _ => cAsgS C T R t e
  | _ => none
/-- a walk over range(..) whose bound changes a name's list -/
def cRngM (C : Ct) (R : TrM) (e : Expr) : Option Src := (callOf e).bind fun c => (cSK C c.1).bind fun k => match k, c.2 with
  | .rng, [a] => (seqM R.m [a]).map Src.rng
  | _, _ => none
def cSrcS (C : Ct) (T : Tr) (R : TrM) (tg e : Expr) : Option Src := match cSrc C T.p T.p tg e with
  | some s => some (.pur s)
  | none => cRngM C R e
def cSt (C : Ct) (T : Tr) (B : Scope → Tr) (R : TrM) (bl : List Stmt → Option Ss) (st : Stmt) : Option S := match st with
  | .Pass _ => some .pass
  | .Break _ => some .brk
  | .Continue _ => some .cnt
  | .Return none _ => some .retN
  | .Return (some e) _ => (R.m e).map fun m => wrS C (vM C.ll m) (.ret m)
  | .Raise _ _ _ => some (.raise 0)
  | .Expr e _ => cExpr C T R e
  | .Assign [t] e _ => cAssign C T B R t e
  | .If c a b _ => (R.t c).bind fun m => (bl a).bind fun x => (bl b).map fun y => wrS C (vM C.ll m) (.ite m x y)
  | .While c b [] _ => (T.t c).bind fun p => (bl b).map fun x => .whl p x
  | .For tg it b [] _ => ifO (notSet it) ((cTg C tg).bind fun T' => ifO ((tgI T').all fun i => !C.prB i) ((cSrcS C T R tg it).bind fun s => (bl b).map fun x => wrS C (vSrc C.ll s) (.for T' s x)))
  | _ => none
def cBlk (r : Stmt → Option S) : List Stmt → Option Ss
  | [] => some .nil
  | s :: ss => (r s).bind fun x => (cBlk r ss).map fun y => .cons x y
def trs (C : Ct) (T : Tr) (B : Scope → Tr) (R : TrM) : Nat → Stmt → Option S
  | 0, _ => none
  | n + 1, st => cSt C T B R (cBlk (trs C T B R n)) st
section
variable {C : Ct} {X : Cx} {fa : Nat → Option Addr} {cl : Cl} {T : Tr} {B : Scope → Tr} {R : TrM} {fu : Nat} {s : S} {e t o a : Expr} {pos : Pos} {st : Stmt}
abbrev BlOk (C : Ct) (X : Cx) (fa : Nat → Option Addr) (cl : Cl) (fu : Nat) (sts : List Stmt) (ss : Ss) : Prop := PSs X sts (tS X fa C.prB (execs cl fu ss))
theorem appOf_of {ap cp : Pos} (h : appOf e = some (o, ap, a, cp)) : e = .Call (.Attribute o "append" ap) [a] [] cp := by
  unfold appOf at h
  split at h
  · obtain ⟨h1, h⟩ := ifO_some h
    cases h
    rw [eq_of_beq h1]
  · cases h
theorem cApp_ok (hC : SOk C X fa cl) (hT : TrOk X fa cl T) (hR : TrMOk X fa cl R) {ap cp : Pos} (h : cApp C T R o ap a cp = some s) : StOk C X fa cl fu (.Expr (.Call (.Attribute o "append" ap) [a] [] cp) pos) s := by
  obtain ⟨h1, h⟩ := ifO_some h
  rw [Bool.and_eq_true] at h1
  obtain ⟨i, h2, h⟩ := obind h
  obtain ⟨k1, k2, k3⟩ := cSlot_ok hC.toCxOk h2
  have hs : starEach [a] X.env = (false, eval a X.env) :: starEach [] X.env := star_of h1.1
  have hfew : ((backTo cp (starEach [a] X.env)).all (fun x => !x.1) && (backToKw cp (keywordEach [] X.env)).all (fun x => x.1.isSome)
      && decide ([a].length + ([] : List Keyword).length + (if ([] : List Keyword).isEmpty then 0 else 1) < 30)) = true := by rw [hs]; rfl
  split at h
  · obtain ⟨f, h3, h⟩ := omap h
    subst h
    exact s_wr (s_appF k1 (hT.f _ _ h3) (base_of k3) hfew h1.2 hs) _
  · obtain ⟨m, h3, h⟩ := omap h
    subst h
    exact s_wr (s_app k1 (hR.m _ _ h3) (base_of k3) hfew h1.2 hs) _
theorem cExpr_ok (hC : SOk C X fa cl) (hT : TrOk X fa cl T) (hR : TrMOk X fa cl R) (h : cExpr C T R e = some s) : StOk C X fa cl fu (.Expr e pos) s := by
  unfold cExpr at h
  split at h
  · rename_i hs
    cases h
    unfold isStrE at hs
    split at hs
    · exact s_doc
    · cases hs
  · rename_i o ap a cp _ ha
    rw [appOf_of ha]
    exact cApp_ok hC hT hR h
  · obtain ⟨h1, h⟩ := ifO_some h
    obtain ⟨m, h3, h⟩ := omap h
    subst h
    exact s_wr (s_expr (hR.m _ _ h3) (sw_notComp h1)) _
theorem cUnp_ok (hC : SOk C X fa cl) (hR : TrMOk X fa cl R) {ts : List Expr} {k : Nat} {pt : Pos} (h : cUnp C R (.Tuple ts k pt) e = some s) : StOk C X fa cl fu (.Assign [.Tuple ts k pt] e pos) s := by
  obtain ⟨h1, h⟩ := ifO_some h
  rw [Bool.and_eq_true] at h1
  obtain ⟨T', h2, h⟩ := obind h
  split at h
  · rename_i is
    obtain ⟨h3, h⟩ := ifO_some h
    obtain ⟨m, h4, h⟩ := omap h
    subst h
    refine s_wr (s_unp (T := .many is) (fun i hi => by simpa using List.all_eq_true.mp h3 i hi) (ps_asg (hR.m _ _ h4) (cTg_ok hC.toCxOk h2) (show swapsWithSole [.Tuple ts k pt] e pos.line X.env = pure false from sw_notComp (t := some (.Tuple ts k pt)) (l := pos.line) (env := X.env) h1.1) ?_ rfl)) _
    cases e <;> first | rfl | cases h1.2
  · cases h
theorem cAsgS_ok (hC : SOk C X fa cl) (hT : TrOk X fa cl T) (hR : TrMOk X fa cl R) {o k : Expr} {p : Pos} (h : cAsgS C T R (.Subscript o k p) e = some s) : StOk C X fa cl fu (.Assign [.Subscript o k p] e pos) s := by
  obtain ⟨h1, h⟩ := ifO_some h
  obtain ⟨tt, h2, h⟩ := obind h
  obtain ⟨m, h4, h⟩ := omap h
  subst h
  refine s_wr ?_ _
  have := asg1 (pos := pos) (r := .val m) hC.toCxOk hT (pr_val (hR.m _ _ h4)) (cTgt_ok hC.toCxOk hT h2).1 (show swapsWithSole [.Subscript o k p] e pos.line X.env = pure false from sw_notComp (t := some (.Subscript o k p)) (l := pos.line) (env := X.env) h1) rfl rfl
  have e2 : exec cl fu (.asg tt m) = fun env => (evR cl (.val m) env).bind fun x => (store cl tt x.1 x.2).bind fun env2 => .ok (.nx, env2) := by
    funext env
    show (run cl m env).bind _ = ((run cl m env).bind _).bind _
    cases run cl m env <;> rfl
  show PS X _ (tS X fa C.prB (exec cl fu (.asg tt m)))
  rw [e2]
  exact this
theorem cName1_ok (hC : SOk C X fa cl) (hT : TrOk X fa cl T) (hR : TrMOk X fa cl R) (hB : ∀ (scope : Scope) (s : Shared) (H : Hp) (A : Addr) (cells : List (Str × Addr)) (fp : List Addr), TrOk (X.blk s H scope (compEnvC scope cells A X.env) fp) fa cl (B scope)) {x : Str} {p : Pos} (h : cName1 C T B R x p e = some s) : StOk C X fa cl fu (.Assign [.Name x p] e pos) s := by
  obtain ⟨h1, h⟩ := ifO_some h
  rw [Bool.and_eq_true] at h1
  obtain ⟨i, h2, h⟩ := obind h
  obtain ⟨h3, h⟩ := ifO_some h
  have h3 : C.prB i = false := by simpa using h3
  split at h
  · exact cSetLc_ok hC hT hB h2 h3 ‹_› h
  · obtain ⟨h4, h⟩ := ifO_some h
    exact cSetA_ok hC hT hR h1.1 h1.2 h2 h3 h4 h
theorem cAssign_ok (hC : SOk C X fa cl) (hT : TrOk X fa cl T) (hR : TrMOk X fa cl R) (hB : ∀ (scope : Scope) (s : Shared) (H : Hp) (A : Addr) (cells : List (Str × Addr)) (fp : List Addr), TrOk (X.blk s H scope (compEnvC scope cells A X.env) fp) fa cl (B scope)) (h : cAssign C T B R t e = some s) : StOk C X fa cl fu (.Assign [t] e pos) s := by
  unfold cAssign at h
  split at h
  · exact cName1_ok hC hT hR hB h
  · split at h
    · exact cParS_ok hC hT hR h
    · exact cUnp_ok hC hR h
  · exact cAsgS_ok hC hT hR h
  · cases h
theorem cSrcS_ok (hC : SOk C X fa cl) (hT : TrOk X fa cl T) (hR : TrMOk X fa cl R) {src : Src} (h : cSrcS C T R t e = some src) : PI X t e (tIM X fa (evSrc cl src)) := by
  unfold cSrcS at h
  split at h
  · cases h
    exact im_of (cSrcP_ok hC.toCxOk hT.p ‹_›)
  · obtain ⟨⟨x, args⟩, h1, h4⟩ := obind h
    obtain ⟨k, h2, h5⟩ := obind h4
    clear h h4
    obtain ⟨p, q, rfl⟩ := callOf_of h1
    obtain ⟨g1, g2, g3⟩ := cSK_of hC.toCxOk h2
    dsimp only at g1 g2 g3 h5
    split at h5
    · rename_i a _
      have g3 : x = "range" := g3
      subst g3
      obtain ⟨ms, h3, h⟩ := omap h5
      subst h
      obtain ⟨l1, l2, l3⟩ := seqM_ok (fun e p hp => hR.m e p hp) h3
      have hs : notStar a = true := by simpa [noStar] using l3
      exact im_rng1 g1 g2 l1 (fun env ds env1 hd => by rw [runs_len hd, l2]; rfl) (star_of hs)
    · cases h5
theorem cBlk_ok {r : Stmt → Option S} (hr : ∀ st s, r st = some s → StOk C X fa cl fu st s) : ∀ {sts : List Stmt} {ss : Ss}, cBlk r sts = some ss → BlOk C X fa cl fu sts ss
  | [], _, h => by cases h; exact ss_nil
  | st :: sts, ss, h => by
    obtain ⟨x, h1, h⟩ := obind h
    obtain ⟨y, h2, h⟩ := omap h
    subst h
    exact ss_cons (hr _ _ h1) (cBlk_ok hr h2)
theorem cSt_ok (hC : SOk C X fa cl) (hT : TrOk X fa cl T) (hR : TrMOk X fa cl R) (hB : ∀ (scope : Scope) (s : Shared) (H : Hp) (A : Addr) (cells : List (Str × Addr)) (fp : List Addr), TrOk (X.blk s H scope (compEnvC scope cells A X.env) fp) fa cl (B scope)) {bl : List Stmt → Option Ss} (hb : ∀ sts ss, bl sts = some ss → BlOk C X fa cl fu sts ss)
    (h : cSt C T B R bl st = some s) : StOk C X fa cl fu st s := by
  unfold cSt at h
  split at h
  · cases h; exact s_pass
  · cases h; exact s_brk
  · cases h; exact s_cnt
  · cases h; exact s_retN
  · obtain ⟨m, h1, h⟩ := omap h
    subst h
    exact s_wr (s_ret (hR.m _ _ h1)) _
  · cases h
    exact s_bad fun env x z => nomatch z
  · exact cExpr_ok hC hT hR h
  · exact cAssign_ok hC hT hR hB h
  · obtain ⟨m, h1, h⟩ := obind h
    obtain ⟨x, h2, h⟩ := obind h
    obtain ⟨y, h3, h⟩ := omap h
    subst h
    exact s_wr (s_if (hR.t _ _ h1) (hb _ _ h2) (hb _ _ h3)) _
  · obtain ⟨p, h1, h⟩ := obind h
    obtain ⟨x, h2, h⟩ := omap h
    subst h
    exact s_whl hC.own (hT.t _ _ h1) (hb _ _ h2)
  · obtain ⟨hn, h⟩ := ifO_some h
    obtain ⟨T', h1, h⟩ := obind h
    obtain ⟨h2, h⟩ := ifO_some h
    obtain ⟨src, h3, h⟩ := obind h
    obtain ⟨x, h4, h⟩ := omap h
    subst h
    exact s_wr (s_for hC.own hC.calm (cSrcS_ok hC hT hR h3) (cTg_ok hC.toCxOk h1) (hb _ _ h4) (fun i hi => by simpa using List.all_eq_true.mp h2 i hi) (notSet_fold hn)) _
  · cases h
theorem trs_ok (hC : SOk C X fa cl) (hT : TrOk X fa cl T) (hR : TrMOk X fa cl R) (hB : ∀ (scope : Scope) (s : Shared) (H : Hp) (A : Addr) (cells : List (Str × Addr)) (fp : List Addr), TrOk (X.blk s H scope (compEnvC scope cells A X.env) fp) fa cl (B scope)) : ∀ (n : Nat) (st : Stmt) (s : S), trs C T B R n st = some s → StOk C X fa cl fu st s
  | 0, _, _, h => by cases h
  | n + 1, st, s, h => cSt_ok hC hT hR hB (fun sts ss hs => cBlk_ok (trs_ok hC hT hR hB n) hs) h
end
/-- a block, by one number of steps for all depths -/
def body (n : Nat) (C : Ct) : List Stmt → Option Ss := cBlk (trs C (tr n C) (fun s => tr n (C.inBlk s)) (trm C (tr n C) n) n)
theorem body_ok {C : Ct} {X : Cx} {fa : Nat → Option Addr} {cl : Cl} (hC : SOk C X fa cl) (fu n : Nat) {sts : List Stmt} {ss : Ss} (h : body n C sts = some ss) : BlOk C X fa cl fu sts ss := by
  have hT := tr_ok n C X hC.toCxOk
  exact cBlk_ok (trs_ok hC hT (trm_ok hC.toCxOk hT n) (fun scope s H A cells fp => tr_ok n _ _ (hC.toCxOk.blk scope s H A cells fp)) n) h
end RE
end

section
set_option linter.all false
set_option maxRecDepth 100000
set_option maxHeartbeats 4000000
/-! RE31: defs; the table of defs. -/
namespace RE
open PySem PySem.Spec PyProof.Rows L2

/-! ### a body that ends with a fresh list -/
def cBlkF (r : Stmt → Option S) (rf : Expr → Option F) : List Stmt → Option (Ss × F)
  | [] => none
  | [.Return (some e) _] => (rf e).map fun f => (.nil, f)
  | s :: ss => (r s).bind fun x => (cBlkF r rf ss).map fun y => (.cons x y.1, y.2)
def tSF (X : Cx) (fa : Nat → Option Addr) (g : RE.Env → Out (List D)) : TS := fun Z σ H => ∃ env Hf Os ds, Sim (rc X fa) env σ Hf H Os ∧ g env = .ok ds ∧
  ∀ p vs Hf' H', Sub Hf' H' → Stp (Wn Os) Hf H Hf' H' → H p = none → Hf' p = none → H' p = some (.lst vs) → RpA (rc X fa) Hf' vs ds → Z.rt (.ref p) H'
abbrev fFin (cl : Cl) (fu : Nat) (ss : Ss) (f : F) : RE.Env → Out (List D) := fun env => (execs cl fu ss env).bind fun x => match x.1 with
  | .nx => evF cl f x.2
  | _ => .bad
section
variable {C : Ct} {X : Cx} {fa : Nat → Option Addr} {cl : Cl} {fu : Nat}
theorem ssf_ret {e : Expr} {f : F} {pos : Pos} (p : PE X e (tF X fa (evF cl f))) : PSs X [.Return (some e) pos] (tSF X fa (fFin cl fu .nil f)) := PSs.imp (pss_one (ps_ret p)) fun Z σ H ⟨env, Hf, Os, ds, S, e, q⟩ =>
  ⟨env, Hf, Os, ds, S, e, fun p vs Hf1 H1 S1 st1 n nf eh r no => q p vs Hf1 H1 S1.sub st1.w0 n nf eh r⟩
theorem ssf_cons {st : Stmt} {sts : List Stmt} {s : S} {ss : Ss} {f : F} (h : StOk C X fa cl fu st s) (hs : PSs X sts (tSF X fa (fFin cl fu ss f))) : PSs X (st :: sts) (tSF X fa (fFin cl fu (.cons s ss) f)) := PSs.imp (pss_cons h hs) fun Z σ H ⟨env, Hf, Os, ds, S, e, q⟩ => by
  obtain ⟨⟨fl, n2⟩, e1, e2⟩ := Out.bind_eq_ok e
  clear e
  have e1 : ((exec cl fu s env).bind fun (fl, env1) => match fl with
    | .nx => execs cl fu ss env1
    | .rt d => .ok (.rt d, env1)
    | .bk => .ok (.bk, env1)
    | .ct => .ok (.ct, env1)) = .ok (fl, n2) := e1
  obtain ⟨⟨fl1, n1⟩, e3, e4⟩ := Out.bind_eq_ok e1
  clear e1
  refine ⟨env, Hf, Os, fl1, n1, S, e3, fun Hf1 H1 σ1 Os1 S1 s1 => ?_⟩
  have nn : ∀ x, H1 x = none → H x = none := fun x h => by
    cases e : H x with
    | none => rfl
    | some o => exact absurd h (s1.st.st x (by rw [e]; exact fun z => nomatch z))
  cases fl1 with
  | nx =>
    refine ⟨n1, Hf1, Os1, ds, S1, ?_, fun p vs Hf2 H2 sub st2 n nf eh r => q p vs Hf2 H2 sub ?_ (nn p n) nf eh r⟩
    · show (execs cl fu ss n1).bind _ = _
      have e4 : execs cl fu ss n1 = .ok (fl, n2) := e4
      rw [e4]
      exact e2
    · have := s1.trans (StpS.of (pr := C.prB) (σ := σ1) st2)
      exact this.st
  | rt d => cases e4; cases e2
  | bk => cases e4; cases e2
  | ct => cases e4; cases e2
theorem cBlkF_ok {r : Stmt → Option S} {rf : Expr → Option F} (hr : ∀ st s, r st = some s → StOk C X fa cl fu st s) (hf : ∀ e f, rf e = some f → PE X e (tF X fa (evF cl f))) : ∀ {sts : List Stmt} {ss : Ss} {f : F}, cBlkF r rf sts = some (ss, f) → PSs X sts (tSF X fa (fFin cl fu ss f)) := by
  intro sts
  induction sts with
  | nil => intro ss f h; cases h
  | cons st sts ih =>
    intro ss f h
    unfold cBlkF at h
    split at h
    · cases ‹st :: sts = []›
    · rename_i e pos heq
      cases heq
      obtain ⟨g, h1, h⟩ := omap h
      cases h
      exact ssf_ret (hf _ _ h1)
    · rename_i s' ss' _ heq
      cases heq
      obtain ⟨x, h1, h⟩ := obind h
      obtain ⟨y, h2, h⟩ := omap h
      cases h
      exact ssf_cons (hr _ _ h1) (ih (ss := y.1) (f := y.2) h2)
end
/-- a def's translation -/
def cDef (n : Nat) (C : Ct) (kd np : Nat) (b : List Stmt) : Option Fn := match kd with
  | 0 => (body n C b).map fun ss => ⟨np, C.N.length, false, none, ss⟩
  | 1 => (body n C b).map fun ss => ⟨np, C.N.length, true, none, ss⟩
  | _ => (cBlkF (trs C (tr n C) (fun s => tr n (C.inBlk s)) (trm C (tr n C) n) n) (tr n C).f b).map fun y => ⟨np, C.N.length, false, some y.2, y.1⟩

/-! ### the names' values at the entry -/
theorem sim_start {R : Rc} {N : List Str} {Hf H : Hp} (sub : Sub Hf H) : ∀ {vs : List V} {ds : List D}, RpA R Hf vs ds → ds.length ≤ N.length → Sim R (entry N.length (ds.map .val)) (start N vs) Hf H fun _ => [] := by
  intro vs ds r hl
  have el := r.length
  refine ⟨?_, sub, fun i s e => ?_, fun _ _ => rfl, (fun _ _ _ h => nomatch h), (fun _ => List.nodup_nil), (fun _ _ h => nomatch h)⟩
  · unfold entry L2.start
    simp [el]
  · unfold entry at e
    unfold L2.start
    by_cases hi : i < ds.length
    · rw [List.getElem?_append_left (by simpa using hi), List.getElem?_map] at e
      cases q : ds[i]? with
      | none => rw [q] at e; cases e
      | some d =>
        rw [q] at e
        cases e
        obtain ⟨v, h1, h2⟩ := r.get q
        refine ⟨some v, ?_, rfl, v, rfl, h2⟩
        rw [List.getElem?_append_left (by simpa [el] using hi), List.getElem?_map, h1]
        rfl
    · rw [List.getElem?_append_right (by simpa using hi), List.getElem?_replicate] at e
      split at e
      · cases e
        rename_i hlt
        refine ⟨none, ?_, rfl⟩
        rw [List.getElem?_append_right (by simp [el]; omega), List.getElem?_replicate, if_pos]
        simp [el] at hlt ⊢
        exact hlt
      · cases e
theorem sim_startI {R : Rc} {N : List Str} {Hf H : Hp} (sub : Sub Hf H) {a : Addr} {ws : List V} {xs : List D} (hH : H a = some (.lst ws)) (hn : Hf a = none) (rw' : RpA R Hf ws xs) : ∀ {vs : List V} {ds : List D}, RpA R Hf vs ds → ds.length + 1 ≤ N.length →
    Sim R (entry N.length (.own (.lst xs) :: ds.map .val)) (start N (.ref a :: vs)) Hf H fun j => if j = 0 then [a] else [] := by
  intro vs ds r hl
  have el := r.length
  refine ⟨?_, sub, fun i s e => ?_, fun i hi => ?_, fun i j x hx hy => ?_, fun i => ?_, fun i x hx => ?_⟩
  · unfold entry L2.start
    simp [el]
  · unfold entry at e
    unfold L2.start
    cases i with
    | zero =>
      have e : some (Slot.own (.lst xs)) = some s := e
      cases e
      exact ⟨some (.ref a), rfl, a, rfl, rfl, ws, hH, rw'⟩
    | succ i =>
      have e : (ds.map Slot.val ++ List.replicate (N.length - (ds.map Slot.val).length.succ) Slot.no)[i]? = some s := by simpa using e
      have goal : ∃ sv, (vs.map some ++ List.replicate (N.length - (vs.length + 1)) none)[i]? = some sv ∧ SlotOk R Hf H [] s sv := by
        by_cases hi : i < ds.length
        · rw [List.getElem?_append_left (by simpa using hi), List.getElem?_map] at e
          cases q : ds[i]? with
          | none => rw [q] at e; cases e
          | some d =>
            rw [q] at e
            cases e
            obtain ⟨v, h1, h2⟩ := r.get q
            refine ⟨some v, ?_, rfl, v, rfl, h2⟩
            rw [List.getElem?_append_left (by simpa [el] using hi), List.getElem?_map, h1]
            rfl
        · rw [List.getElem?_append_right (by simpa using hi), List.getElem?_replicate] at e
          split at e
          · cases e
            rename_i hlt
            refine ⟨none, ?_, rfl⟩
            rw [List.getElem?_append_right (by simp [el]; omega), List.getElem?_replicate, if_pos]
            simp [el] at hlt ⊢
            omega
          · cases e
      obtain ⟨sv, g1, g2⟩ := goal
      exact ⟨sv, by simpa using g1, g2⟩
  · have : i ≠ 0 := by
      intro z
      subst z
      unfold entry at hi
      simp at hi
    exact if_neg this
  · split at hx
    · split at hy
      · omega
      · cases hy
    · cases hx
  · split
    · exact List.nodup_cons.mpr ⟨List.not_mem_nil, List.nodup_nil⟩
    · exact List.nodup_nil
  · split at hx
    · rw [List.mem_singleton.mp hx]; exact hn
    · cases hx

/-! ### the table -/
section
variable {P : Program} {w : World} {K : PySem.W.Frag} {mg : Str → Option Value} {base : Heap} {fa : Nat → Option Addr} {fs : List (Str × Nat × Nat × Nat)} {bl : List Str} {cs : List (Str × D)} {T : List Fn} {fu : Nat}
def TabOk (P : Program) (w : World) (K : PySem.W.Frag) (mg : Str → Option Value) (base : Heap) (fa : Nat → Option Addr) (fs : List (Str × Nat × Nat × Nat)) (cl : Cl) (lvl : Nat) : Prop :=
  ∀ x kd i np, fs.lookup x = some (kd, i, np) → ∃ f fd ps, FnOk P w K mg base CX0 lvl f fd ps (spK ⟨K, fa, w⟩ cl kd i np) ∧ mg x = some (.ref f) ∧ PySem.W.keepIn K (.ref f) = true ∧ Binds K fd ps []
/-- what the text's top has laid, for the module's names -/
structure TopOk (w : World) (K : PySem.W.Frag) (mg : Str → Option Value) (fa : Nat → Option Addr) (bl : List Str) (cs : List (Str × D)) : Prop where
  bl : ∀ x ∈ bl, mg x = none
  cs : ∀ x d, cs.lookup x = some d → ∃ v u, mg x = some u ∧ RelV v u ∧ ∀ Hf, Rp ⟨K, fa, w⟩ Hf v d
/-- a def and its translation -/
structure DefOk (K : PySem.W.Frag) (mg : Str → Option Value) (fs : List (Str × Nat × Nat × Nat)) (bl : List Str) (cs : List (Str × D)) (T : List Fn) (x : Str) (kd i np : Nat) : Prop where
  ex : ∃ qual st f fd ps C n, Fun K x qual st f fd ∧ FnScope C.N ps (defScope st) ∧ ps.length = np ∧ mg x = some (.ref f) ∧ Binds K fd ps [] ∧ C.sc = defScope st ∧ C.blk = none ∧ C.bl = bl ∧ C.cs = cs ∧ C.fs = fs ∧ (kd = 1 → C.pr = [0]) ∧ ∃ fn, T[i]? = some fn ∧ cDef n C kd np (defBody st) = some fn
theorem cxOk_of (tp : TopOk w K mg fa bl cs) {cl : Cl} {k : Nat} (tab : TabOk P w K mg base fa fs cl k) {C : Ct} {ps : List Str} {qual : Str} {sc : Scope} {f : Addr} {cdv : Value} {A : Around} {outer : List PySem.Env} {s : Shared} {H : Hp} {E : XK} (S : FnScope C.N ps sc) (h1 : C.sc = sc) (h2 : C.blk = none) (h3 : C.bl = bl) (h4 : C.cs = cs) (h5 : C.fs = fs)
    (hr : Room k (A.deeper (envOfC qual sc s.heap.objs.size f cdv))) : SOk C (cxOf CX0 P w K mg base C.N qual sc f cdv A outer s H E).nox fa cl := by
  refine { N := rfl, nd := S.nd, sc := h1.symm, calm := rfl, un := ?_, fn := fun x _ => .inl rfl, bl := ?_, cs := ?_, fs := ?_, own := PassesOwn.never, fk := S.kind }
  · have := hr.un
    show (A.deeper (envOfC qual sc s.heap.objs.size f cdv)).units + 66 < cLine
    omega
  · rw [h3]; exact tp.bl
  · rw [h4]; exact tp.cs
  · rw [h5]
    intro x kd i np hx
    obtain ⟨f', fd', ps', F, g1, g2, g3⟩ := tab x kd i np hx
    exact ⟨f', fd', ps', k, F, hr, g1, g2, g3⟩
theorem entry_len {n : Nat} {ds : List Slot} : (entry n ds).length = max n ds.length := by
  unfold entry
  simp
  omega
theorem def_core (tp : TopOk w K mg fa bl cs) {k : Nat} (tab : TabOk P w K mg base fa fs (callF T fu k) k) {x qual : Str} {kd i np n : Nat} {st : Stmt} {f : Addr} {fd : FuncData} {ps : List Str} {C : Ct} {fn : Fn} (F : Fun K x qual st f fd) (S : FnScope C.N ps (defScope st)) (hnp : ps.length = np)
    (h1 : C.sc = defScope st) (h2 : C.blk = none) (h3 : C.bl = bl) (h4 : C.cs = cs) (h5 : C.fs = fs) (h6 : kd = 1 → C.pr = [0]) (ht : T[i]? = some fn) (hd : cDef n C kd np (defBody st) = some fn) : FnOk P w K mg base CX0 (k + 1) f fd ps (spK ⟨K, fa, w⟩ (callF T fu (k + 1)) kd i np) := by
  have hpl : ps.length ≤ C.N.length := by have := congrArg List.length S.pre; rw [List.length_take] at this; omega
  refine F.ok S (fun vs H Q E hs => ?_) fun cdv A outer s H vs Q E hr hs => ?_
  · rcases kd with _ | _ | kd
    · exact hs.1.trans hnp.symm
    · exact hs.1.trans hnp.symm
    · exact hs.1.trans hnp.symm
  · have hC := cxOk_of (P := P) (base := base) (outer := outer) (H := H) (E := E) tp tab S h1 h2 h3 h4 h5 hr
    rcases kd with _ | _ | kd
    · -- a value
      obtain ⟨ss, hb, hd⟩ := omap hd
      subst hd
      have hp := body_ok hC fu n hb
      obtain ⟨hlen, Hf, ds, d, sub, ra, e, q⟩ := hs
      refine ⟨_, hp, ?_⟩
      have e : (match T[i]? with | some fn => callV (callF T fu k) fu fn ds | none => .bad) = .ok d := e
      rw [ht] at e
      obtain ⟨hc, e⟩ := chk_eq_ok e
      obtain ⟨⟨fl, env1⟩, e1, e2⟩ := Out.bind_eq_ok e
      refine ⟨_, Hf, _, fl, env1, sim_start sub ra (by rw [← ra.length, hlen, ← hnp]; exact hpl), e1, fun Hf' H' σ' Os' S' s' => ?_⟩
      have st0 : Stp W0 Hf H Hf' H' := s'.st.weak fun b ⟨_, hb⟩ => nomatch hb
      cases fl with
      | nx => cases e2; exact q _ _ _ S'.sub st0 .non
      | rt d' => cases e2; exact fun v r => q v _ _ S'.sub st0 r
      | bk => cases e2
      | ct => cases e2
    · -- a change of the first argument
      obtain ⟨ss, hb, hd⟩ := omap hd
      subst hd
      have hp := body_ok hC fu n hb
      obtain ⟨hlen, Hf, a, us, ws, xs, ds, d, xs', rfl, sub, hH, hn, rw', ra, e, q⟩ := hs
      refine ⟨_, hp, ?_⟩
      have e : (match T[i]? with | some fn => callI (callF T fu k) fu fn xs ds | none => .bad) = .ok (d, xs') := e
      rw [ht] at e
      obtain ⟨hc, e⟩ := chk_eq_ok e
      obtain ⟨⟨fl, env1⟩, e1, e2⟩ := Out.bind_eq_ok e
      clear e
      obtain ⟨d2, e3, e4⟩ := Out.bind_eq_ok e2
      clear e2
      cases hx : getS env1 0 with
      | own o =>
        rw [hx] at e4
        cases o with
        | lst ys =>
          cases e4
          refine ⟨_, Hf, _, fl, env1, sim_startI sub hH hn rw' ra (by rw [← ra.length]; rw [List.length_cons] at hlen; omega), e1, fun Hf' H' σ' Os' S' s' => ?_⟩
          have hw : ∀ b, Wn (fun j => if j = 0 then [a] else []) b → b = a := fun b ⟨j, hj⟩ => by
            dsimp only at hj
            split at hj
            · exact List.mem_singleton.mp hj
            · cases hj
          have st0 : Stp (fun b => b = a) Hf H Hf' H' := s'.st.weak hw
          have p0 : C.prB 0 = true := by unfold Ct.prB; rw [h6 rfl]; rfl
          have hσ := s'.pr 0 p0
          obtain ⟨a', ws', g1, g2, g3, g4, g5⟩ := S'.ownL hx
          rw [hσ] at g1
          have g1 : some (some (V.ref a)) = some (some (V.ref a')) := g1
          cases g1
          cases fl with
          | nx => cases e3; exact q _ _ _ ws' S'.sub st0 g5 g3 g4 .non
          | rt d' => cases e3; exact fun v r => q v _ _ ws' S'.sub st0 g5 g3 g4 r
          | bk => cases e3
          | ct => cases e3
        | _ => cases e4
      | _ => rw [hx] at e4; cases e4
    · -- a fresh list
      obtain ⟨⟨ss, fin⟩, hb, hd⟩ := omap hd
      subst hd
      have hT := tr_ok n C _ hC.toCxOk
      have hp := cBlkF_ok (fu := fu) (trs_ok hC hT (trm_ok hC.toCxOk hT n) (fun scope s H A cells fp => tr_ok n _ _ (hC.toCxOk.blk scope s H A cells fp)) n) hT.f hb
      obtain ⟨hlen, Hf, ds, xs, sub, ra, e, q⟩ := hs
      refine ⟨_, hp, ?_⟩
      have e : (match T[i]? with | some fn => callR (callF T fu k) fu fn ds | none => .bad) = .ok xs := e
      rw [ht] at e
      obtain ⟨hc, e⟩ := chk_eq_ok e
      refine ⟨_, Hf, _, xs, sim_start sub ra (by rw [← ra.length, hlen, ← hnp]; exact hpl), e, fun p us Hf' H' sub' st' n1 n2 h' r => q p us Hf' H' sub' (st'.weak fun b ⟨_, hb⟩ => nomatch hb) n1 n2 h' r⟩
theorem def_step (tp : TopOk w K mg fa bl cs) {k : Nat} (tab : TabOk P w K mg base fa fs (callF T fu k) k) {x : Str} {kd i np : Nat} (d : DefOk K mg fs bl cs T x kd i np) :
    ∃ f fd ps, FnOk P w K mg base CX0 (k + 1) f fd ps (spK ⟨K, fa, w⟩ (callF T fu (k + 1)) kd i np) ∧ mg x = some (.ref f) ∧ PySem.W.keepIn K (.ref f) = true ∧ Binds K fd ps [] := by
  obtain ⟨qual, st, f, fd, ps, C, n, F, S, hnp, hm, hb, h1, h2, h3, h4, h5, h6, fn, ht, hd⟩ := d.ex
  exact ⟨f, fd, ps, def_core tp tab F S hnp h1 h2 h3 h4 h5 h6 ht hd, hm, F.kp, hb⟩
/-- every def of the table, however deep -/
theorem tab_ok (tp : TopOk w K mg fa bl cs) (hd : ∀ x kd i np, fs.lookup x = some (kd, i, np) → DefOk K mg fs bl cs T x kd i np) : ∀ lvl, TabOk P w K mg base fa fs (callF T fu lvl) lvl
  | 0 => fun x kd i np hx => by
    obtain ⟨qual, st, f, fd, ps, C, n, F, S, hnp, hm, hb, _⟩ := (hd x kd i np hx).ex
    refine ⟨f, fd, ps, ⟨fun vs H Q E hs => ?_, fun A outer s H args us vs Q E hr e0 hbb hv hs => ?_⟩, hm, F.kp, hb⟩
    · rcases kd with _ | _ | kd <;> exact hs.1.trans hnp.symm
    · exfalso
      rcases kd with _ | _ | kd
      · obtain ⟨_, Hf, ds, d, _, _, e, _⟩ := hs; cases e
      · obtain ⟨_, Hf, a, us, ws, xs, ds, d, xs', _, _, _, _, _, _, e, _⟩ := hs; cases e
      · obtain ⟨_, Hf, ds, d, _, _, e, _⟩ := hs; cases e
  | lvl + 1 => fun x kd i np hx => def_step tp (tab_ok tp hd lvl) (hd x kd i np hx)
end
end RE
end

section
set_option linter.all false
set_option maxRecDepth 100000
set_option maxHeartbeats 4000000
/-! RE32: a law's end. -/
namespace RE
open PySem PySem.Spec PyProof.Rows L2

/-- a law's promise -/
def spLaw (K : PySem.W.Frag) : Sp := fun vs H Q _ => ∃ (a : Addr) (ns : List Int), vs = [.ref a] ∧ SqL K H a (ns.map V.int) ∧ ns.length ≤ 63 ∧ ∀ H', Q (.bl true) H'
theorem rpa_ints {R : Rc} {H : Hp} : ∀ ns : List Int, RpA R H (ns.map V.int) (ns.map D.int)
  | [] => .nil
  | i :: ns => .cons (.int i) (rpa_ints ns)
/-- from the evaluator's answer -/
theorem law_of {P : Program} {w : World} {K : PySem.W.Frag} {mg : Str → Option Value} {base : Heap} {fa : Nat → Option Addr} {cl : Cl} {k i : Nat} {f : Addr} {fd : FuncData} {ps : List Str} (F : FnOk P w K mg base CX0 k f fd ps (spP ⟨K, fa, w⟩ cl i 1)) (h : ∀ ns : List Int, ns.length ≤ 63 → cl.f i [.scr (ns.map D.int)] = .ok (.bl true)) :
    FnOk P w K mg base CX0 k f fd ps (spLaw K) := F.imp fun vs H Q E ⟨a, ns, e, hs, hl, q⟩ => by
  subst e
  refine ⟨rfl, H, [.scr (ns.map D.int)], .bl true, fun a o e => .inl e, .cons (.scr hs (rpa_ints ns)) .nil, h ns hl, fun v Hf' H' sub st r => ?_⟩
  cases r
  exact q H'
theorem walk {l : PySem.W.OpenLaw} {k : Nat} {q : Program} {loose : List Str} {XP : (Str → Option Value) → Heap → Prop} {YP : World → Heap → Prop} {d : DefRec} {K : Params → PySem.W.Frag} (hn : l.most = some 63) (hdf : d.params.defaults = []) (hr : Room k callerA)
    (hY : ∀ (w : World) (h : Heap), YP w h → (K w.params).In h)
    (F : ∀ (w : World) (mg : Str → Option Value) (fa : Addr) (h : Heap), (K w.params).In h → h.Ns mainGlobals mg → mg d.name = some (.ref fa) →
      ∃ fd : FuncData, (∀ (s : Shared) (u : Value), BindsTo s fd ⟨[u], []⟩ [("script", u)]) ∧ ∀ base : Heap, (K w.params).In base → base.Ns mainGlobals mg → FnOk l.prog w (K w.params) mg base CX0 k fa fd ["script"] (spLaw (K w.params))) :
    PySem.W.WalkO q loose XP YP l.row.toRowW d [] (fun f vs => PySem.call f vs) :=
  L2.walk_of (n := 63) (k := k) (x := "script") (CX := fun _ => CX0) (sp := fun w => spLaw (K w.params)) hn (by decide) hdf hr hY F (fun _ _ a ns hl _ hS => ⟨a, ns, rfl, hS, hl, fun _ => rfl⟩) fun _ _ _ _ _ z => z
theorem some_getD {α : Type} {x : Option α} {d : α} (h : x.isSome = true) : x = some (x.getD d) := by
  cases x with
  | none => cases h
  | some a => rfl
end RE
end

section
set_option linter.all false
set_option maxRecDepth 100000
/-! RE33: the evaluator's loops, by plain lists. -/
namespace RE
open PySem L2
theorem mapO_map {α β : Type} {f : α → Out (List β)} {g : α → β} : ∀ {l : List α}, (∀ x ∈ l, f x = .ok [g x]) → mapO f l = .ok (l.map g)
  | [], _ => rfl
  | x :: l, h => by
    show (f x).bind _ = _
    rw [h x List.mem_cons_self]
    show (mapO f l).bind _ = _
    rw [mapO_map fun y hy => h y (List.mem_cons_of_mem _ hy)]
    rfl
theorem mapO_flat {α β : Type} {f : α → Out (List β)} {g : α → List β} : ∀ {l : List α}, (∀ x ∈ l, f x = .ok (g x)) → mapO f l = .ok (l.flatMap g)
  | [], _ => rfl
  | x :: l, h => by
    show (f x).bind _ = _
    rw [h x List.mem_cons_self]
    show (mapO f l).bind _ = _
    rw [mapO_flat fun y hy => h y (List.mem_cons_of_mem _ hy)]
    simp
/-- a walk whose turns all go on: the environments in a row -/
theorem forL_go {body : Env → Out (Fl × Env)} {tg : Tg} (E : Nat → Env) : ∀ {l : List D} {i : Nat}, (∀ j (h : j < l.length), ∃ e1, bindT tg l[j] (E (i + j)) = .ok e1 ∧ body e1 = .ok (.nx, E (i + j + 1))) → forL body tg l (E i) = .ok (.nx, E (i + l.length))
  | [], i, _ => rfl
  | x :: l, i, h => by
    obtain ⟨e1, h1, h2⟩ := h 0 (by simp)
    show (bindT tg x (E i)).bind _ = _
    have h1 : bindT tg x (E i) = .ok e1 := h1
    rw [h1]
    show (body e1).bind _ = _
    rw [h2]
    show forL body tg l (E (i + 1)) = _
    rw [forL_go E (i := i + 1) fun j hj => ?_]
    · have : i + 1 + l.length = i + (x :: l).length := by simp; omega
      rw [this]
    · obtain ⟨e2, g1, g2⟩ := h (j + 1) (by simpa using hj)
      have e : i + 1 + j = i + (j + 1) := by omega
      rw [e]
      exact ⟨e2, by simpa using g1, g2⟩
end RE
end

section
set_option linter.all false
set_option maxRecDepth 100000
set_option maxHeartbeats 4000000
/-! RM1: the evaluator's steps as rewriting rows: they fire on a list of slots that begins with a slot. -/
namespace RE
open PySem L2
section
variable (cl : Cl) (fu : Nat) (z : Slot) (n : List Slot)
/-! ### continuations by name -/
def varS : Slot → Out D
  | .val d => .ok d
  | _ => .bad
def ifK {α : Type} (t : Option Bool) (x y : Out α) : Out α := (ofO t).bind fun c => match c with
  | true => x
  | false => y
def chainK (o' : Op) (y : D) (w : Out D) : D → Out D
  | .bl true => w.bind fun w => op o' [y, w]
  | .bl false => .ok (.bl false)
  | _ => .bad
def seqK (r : Ss) : Fl → Env → Out (Fl × Env)
  | .nx, env => execs cl fu r env
  | .rt d, env => .ok (.rt d, env)
  | .bk, env => .ok (.bk, env)
  | .ct, env => .ok (.ct, env)
/-- an item of a comprehension -/
def itemK (elt cond : P) (tg : Tg) (env : Env) (x : D) : Out (List D) := (bindT tg x env).bind fun env1 => (ev cl cond env1).bind fun c => ifK (truth c) ((ev cl elt env1).bind fun d => .ok [d]) (.ok [])
def compK (elt cond : P) (tg : Tg) (env : Env) (items : List D) : Out (List D) := chk (inLim items.length) (mapO (itemK cl elt cond tg env) items)
def llK (elt : F) (tg : Tg) (env : Env) (x : D) : Out (List (List D)) := (bindT tg x env).bind fun env1 => (evF cl elt env1).bind fun ds => .ok [ds]
def llsK (elt : F) (tg : Tg) (env : Env) (items : List D) : Out (List (List D)) := chk (inLim items.length) (mapO (llK cl elt tg env) items)
def getIoK (f : Nat) (x : Nat) (ds : List D) (env1 : Env) : Slot → Out (D × Env)
  | .own (.lst xs) => (cl.io f xs ds).bind fun p => .ok (p.1, env1.set x (.own (.lst p.2)))
  | _ => .bad
def popK (x : Nat) (env : Env) : Slot → Out (D × Env)
  | .own (.lst xs) => match xs.getLast? with
    | some d => .ok (d, env.set x (.own (.lst xs.dropLast)))
    | none => .bad
  | _ => .bad
def frzK (env : Env) (i : Nat) : Slot → Env
  | .own o => env.set i (.val o.frz)
  | _ => env
def ioEnd (d : D) : Slot → Out (D × List D)
  | .own (.lst xs') => .ok (d, xs')
  | _ => .bad
def frEnd (r : F) : Fl → Env → Out (List D)
  | .nx, env => evF cl r env
  | _, _ => .bad
/-! ### expressions -/
theorem E_con (d : D) : ev cl (.con d) (z :: n) = .ok d := (rfl)
theorem E_var (i : Nat) : ev cl (.var i) (z :: n) = varS ((z :: n).getD i .no) := (rfl)
theorem E_bvar (i : Nat) : ev cl (.bvar i) (z :: n) = lend ((z :: n).getD i .no) := (rfl)
theorem E_tup (es : Ps) : ev cl (.tup es) (z :: n) = (evs cl es (z :: n)).bind fun ds => .ok (.tup ds) := (rfl)
theorem E_new (f : F) : ev cl (.new f) (z :: n) = (evF cl f (z :: n)).bind fun ds => .ok (.lst ds) := (rfl)
theorem E_op (o : Op) (es : Ps) : ev cl (.op o es) (z :: n) = (evs cl es (z :: n)).bind fun ds => op o ds := (rfl)
theorem E_and (a b : P) : ev cl (.and a b) (z :: n) = (ev cl a (z :: n)).bind fun x => ifK (truth x) (ev cl b (z :: n)) (.ok x) := (rfl)
theorem E_or (a b : P) : ev cl (.or a b) (z :: n) = (ev cl a (z :: n)).bind fun x => ifK (truth x) (.ok x) (ev cl b (z :: n)) := (rfl)
theorem E_not (a : P) : ev cl (.not a) (z :: n) = (ev cl a (z :: n)).bind fun x => (ofO (truth x)).bind fun c => .ok (.bl (!c)) := (rfl)
theorem E_ite (c a b : P) : ev cl (.ite c a b) (z :: n) = (ev cl c (z :: n)).bind fun x => ifK (truth x) (ev cl a (z :: n)) (ev cl b (z :: n)) := (rfl)
theorem E_chain (o o' : Op) (a b c : P) : ev cl (.chain o o' a b c) (z :: n) = (ev cl a (z :: n)).bind fun x => (ev cl b (z :: n)).bind fun y => (op o [x, y]).bind fun w => chainK o' y (ev cl c (z :: n)) w := by
  simp only [ev]
  congr 1
theorem E_call (f : Nat) (es : Ps) : ev cl (.call f es) (z :: n) = (evs cl es (z :: n)).bind fun ds => cl.f f ds := (rfl)
theorem E_dic (ks vs : Ps) : ev cl (.dic ks vs) (z :: n) = (evs cl ks (z :: n)).bind fun a => (evs cl vs (z :: n)).bind fun b => (mkDic a b).bind fun kvs => chk (a.all key0 && decide (a.length ≤ 15)) (.ok (.dic false (putAll [] kvs))) := (rfl)
theorem E_nil : evs cl .nil (z :: n) = .ok [] := (rfl)
theorem E_cons (e : P) (r : Ps) : evs cl (.cons e r) (z :: n) = (ev cl e (z :: n)).bind fun d => (evs cl r (z :: n)).bind fun ds => .ok (d :: ds) := (rfl)
theorem E_lst (es : Ps) : evF cl (.lst es) (z :: n) = evs cl es (z :: n) := (rfl)
theorem E_fop (o : FOp) (es : Ps) : evF cl (.op o es) (z :: n) = (evs cl es (z :: n)).bind fun ds => fop o ds := (rfl)
theorem E_fcall (f : Nat) (es : Ps) : evF cl (.call f es) (z :: n) = (evs cl es (z :: n)).bind fun ds => cl.fr f ds := (rfl)
theorem E_comp (elt cond : P) (tg : Tg) (src : It) (own : List Nat) : evF cl (.comp elt cond tg src own) (z :: n) = (evI cl src (z :: n)).bind fun items => compK cl elt cond tg (wipeS (z :: n) own) items := by
  simp only [evF]
  rfl
theorem E_ival (e : P) : evI cl (.val e) (z :: n) = (ev cl e (z :: n)).bind itemsOf := (rfl)
theorem E_irng (es : Ps) : evI cl (.rng es) (z :: n) = (evs cl es (z :: n)).bind rng := (rfl)
theorem E_ienum (e : P) : evI cl (.enum e) (z :: n) = (ev cl e (z :: n)).bind fun d => (itemsOf d).bind fun xs => .ok (enumL 0 xs) := (rfl)
theorem E_izip (es : Ps) : evI cl (.zip es) (z :: n) = (evs cl es (z :: n)).bind zipD := (rfl)
/-! ### changing expressions -/
theorem E_pur (p : P) : run cl (.pur p) (z :: n) = (ev cl p (z :: n)).bind fun d => .ok (d, z :: n) := (rfl)
theorem E_mop (o : Op) (es : Ms) : run cl (.op o es) (z :: n) = (runs cl es (z :: n)).bind fun p => (op o p.1).bind fun d => .ok (d, p.2) := (rfl)
theorem E_mtup (es : Ms) : run cl (.tup es) (z :: n) = (runs cl es (z :: n)).bind fun p => .ok (.tup p.1, p.2) := (rfl)
theorem E_mlst (es : Ms) : run cl (.lst es) (z :: n) = (runs cl es (z :: n)).bind fun p => .ok (.lst p.1, p.2) := (rfl)
theorem E_mite (c : P) (a b : M) : run cl (.ite c a b) (z :: n) = (ev cl c (z :: n)).bind fun x => ifK (truth x) (run cl a (z :: n)) (run cl b (z :: n)) := (rfl)
theorem E_mnot (a : M) : run cl (.not a) (z :: n) = (run cl a (z :: n)).bind fun p => (ofO (truth p.1)).bind fun t => .ok (.bl (!t), p.2) := (rfl)
theorem E_mand (a b : M) : run cl (.and a b) (z :: n) = (run cl a (z :: n)).bind fun p => ifK (truth p.1) (run cl b p.2) (.ok (p.1, p.2)) := (rfl)
theorem E_mor (a b : M) : run cl (.or a b) (z :: n) = (run cl a (z :: n)).bind fun p => ifK (truth p.1) (.ok (p.1, p.2)) (run cl b p.2) := (rfl)
theorem E_mcall (f : Nat) (es : Ms) : run cl (.call f es) (z :: n) = (runs cl es (z :: n)).bind fun p => (cl.f f p.1).bind fun d => .ok (d, p.2) := (rfl)
theorem E_io (f x : Nat) (es : Ms) : run cl (.io f x es) (z :: n) = chk (isOwn ((z :: n).getD x .no)) ((runs cl es (z :: n)).bind fun p => getIoK cl f x p.1 p.2 (p.2.getD x .no)) := (rfl)
theorem E_pop (x : Nat) : run cl (.pop x) (z :: n) = popK x (z :: n) ((z :: n).getD x .no) := by
  simp only [run]
  unfold popK getS
  rfl
theorem E_popAt (x : Nat) (i : M) : run cl (.popAt x i) (z :: n) = chk (isOwn ((z :: n).getD x .no)) ((run cl i (z :: n)).bind fun p => popD x p.2 p.1 (p.2.getD x .no)) := (rfl)
theorem E_mnil : runs cl .nil (z :: n) = .ok ([], z :: n) := (rfl)
theorem E_mcons (e : M) (r : Ms) : runs cl (.cons e r) (z :: n) = (run cl e (z :: n)).bind fun p => (runs cl r p.2).bind fun q => .ok (p.1 :: q.1, q.2) := (rfl)
/-! ### right sides, stores -/
theorem E_rval (e : M) : evR cl (.val e) (z :: n) = (run cl e (z :: n)).bind fun p => .ok (.val p.1, p.2) := (rfl)
theorem E_rown (f : F) : evR cl (.own f) (z :: n) = (evF cl f (z :: n)).bind fun ds => .ok (.own (.lst ds), z :: n) := (rfl)
theorem E_rdic (t : Bool) : evR cl (.dic t) (z :: n) = .ok (.own (.dic t []), z :: n) := (rfl)
theorem E_rsnil : evRs cl [] (z :: n) = .ok ([], z :: n) := (rfl)
theorem E_rscons (t : Tgt) (r : Rhs) (ts : List (Tgt × Rhs)) : evRs cl ((t, r) :: ts) (z :: n) = (evR cl r (z :: n)).bind fun p => (evRs cl ts p.2).bind fun q => .ok (p.1 :: q.1, q.2) := (rfl)
theorem E_sname (i : Nat) (v : RV) : store cl (.name i) v (z :: n) = .ok ((z :: n).set i (slotOf v)) := by cases v <;> rfl
theorem E_ssub (i : Nat) (a : P) (d : D) : store cl (.sub i a) (.val d) (z :: n) = (ev cl a (z :: n)).bind fun k => putSub (z :: n) i d k ((z :: n).getD i .no) := (rfl)
theorem E_ssub2 (i : Nat) (a b : P) (d : D) : store cl (.sub2 i a b) (.val d) (z :: n) = (ev cl a (z :: n)).bind fun k => (ev cl b (z :: n)).bind fun l => putSub2 (z :: n) i d k l ((z :: n).getD i .no) := (rfl)
theorem E_ssnil : stores cl [] [] (z :: n) = .ok (z :: n) := (rfl)
theorem E_sscons (t : Tgt) (r : Rhs) (ts : List (Tgt × Rhs)) (v : RV) (vs : List RV) : stores cl ((t, r) :: ts) (v :: vs) (z :: n) = (store cl t v (z :: n)).bind fun env1 => stores cl ts vs env1 := (rfl)
/-! ### statements -/
theorem E_pass : exec cl fu .pass (z :: n) = .ok (.nx, z :: n) := (rfl)
theorem E_brk : exec cl fu .brk (z :: n) = .ok (.bk, z :: n) := (rfl)
theorem E_cnt : exec cl fu .cnt (z :: n) = .ok (.ct, z :: n) := (rfl)
theorem E_retN : exec cl fu .retN (z :: n) = .ok (.rt .non, z :: n) := (rfl)
theorem E_frz (i : Nat) (s : S) : exec cl fu (.frz i s) (z :: n) = exec cl fu s (frzK (z :: n) i ((z :: n).getD i .no)) := by
  simp only [exec]
  unfold frzS frzK getS
  cases List.getD (z :: n) i Slot.no <;> rfl
theorem E_ret (e : M) : exec cl fu (.ret e) (z :: n) = (run cl e (z :: n)).bind fun p => .ok (.rt p.1, p.2) := (rfl)
theorem E_expr (e : M) : exec cl fu (.expr e) (z :: n) = (run cl e (z :: n)).bind fun p => .ok (.nx, p.2) := (rfl)
theorem E_set (i : Nat) (r : Rhs) : exec cl fu (.set i r) (z :: n) = (evR cl r (z :: n)).bind fun p => .ok (.nx, p.2.set i (slotOf p.1)) := (rfl)
theorem E_setLL (i : Nat) (elt : F) (tg : Tg) (src : It) (own : List Nat) : exec cl fu (.setLL i elt tg src own) (z :: n) = (evI cl src (z :: n)).bind fun items => (llsK cl elt tg (wipeS (z :: n) own) items).bind fun xss => .ok (.nx, (z :: n).set i (.own (.lls xss))) := by
  show (evI cl src (z :: n)).bind _ = _
  congr 1; funext items
  unfold llsK
  cases inLim items.length <;> rfl
theorem E_unpack (is : List Nat) (e : M) : exec cl fu (.unpack is e) (z :: n) = (run cl e (z :: n)).bind fun p => (bindT (.many is) p.1 p.2).bind fun env2 => .ok (.nx, env2) := (rfl)
theorem E_par (ts : List (Tgt × Rhs)) : exec cl fu (.par ts) (z :: n) = (evRs cl ts (z :: n)).bind fun p => (stores cl ts p.1 p.2).bind fun env2 => .ok (.nx, env2) := (rfl)
theorem E_asg (t : Tgt) (e : M) : exec cl fu (.asg t e) (z :: n) = (run cl e (z :: n)).bind fun p => (store cl t (.val p.1) p.2).bind fun env2 => .ok (.nx, env2) := (rfl)
theorem E_app (i : Nat) (e : M) : exec cl fu (.app i e) (z :: n) = chk (isOwnL ((z :: n).getD i .no)) ((run cl e (z :: n)).bind fun x => appD i x.2 x.1 (x.2.getD i .no)) := (rfl)
theorem E_appF (i : Nat) (f : F) : exec cl fu (.appF i f) (z :: n) = (evF cl f (z :: n)).bind fun ds => appFD i (z :: n) ds ((z :: n).getD i .no) := (rfl)
theorem E_site (c : M) (a b : Ss) : exec cl fu (.ite c a b) (z :: n) = (run cl c (z :: n)).bind fun p => ifK (truth p.1) (execs cl fu a p.2) (execs cl fu b p.2) := (rfl)
theorem E_whl (c : P) (b : Ss) : exec cl fu (.whl c b) (z :: n) = whileL (ev cl c) (execs cl fu b) fu (z :: n) := (rfl)
theorem E_forp (tg : Tg) (s : It) (b : Ss) : exec cl fu (.for tg (.pur s) b) (z :: n) = (evI cl s (z :: n)).bind fun ds => forL (execs cl fu b) tg ds (z :: n) := by
  show ((evI cl s (z :: n)).bind _).bind _ = _
  cases evI cl s (z :: n) <;> rfl
theorem E_forr (tg : Tg) (es : Ms) (b : Ss) : exec cl fu (.for tg (.rng es) b) (z :: n) = (runs cl es (z :: n)).bind fun p => (rng p.1).bind fun ds => forL (execs cl fu b) tg ds p.2 := by
  show ((runs cl es (z :: n)).bind _).bind _ = _
  cases runs cl es (z :: n) with
  | ok p =>
    show ((rng p.1).bind _).bind _ = (rng p.1).bind _
    cases rng p.1 <;> rfl
  | exc c p => rfl
  | bad => rfl
theorem E_raise (c : Nat) : exec cl fu (.raise c) (z :: n) = .exc c [] := (rfl)
theorem E_snil : execs cl fu .nil (z :: n) = .ok (.nx, z :: n) := (rfl)
theorem E_scons (s : S) (r : Ss) : execs cl fu (.cons s r) (z :: n) = (exec cl fu s (z :: n)).bind fun p => seqK cl fu r p.1 p.2 := by
  simp only [execs]
  congr 1; funext p
  obtain ⟨fl, e⟩ := p
  cases fl <;> rfl
/-! ### continuations -/
theorem K_nx (r : Ss) (env : Env) : seqK cl fu r .nx env = execs cl fu r env := (rfl)
theorem K_rt (r : Ss) (d : D) (env : Env) : seqK cl fu r (.rt d) env = .ok (.rt d, env) := (rfl)
theorem K_bk (r : Ss) (env : Env) : seqK cl fu r .bk env = .ok (.bk, env) := (rfl)
theorem K_ct (r : Ss) (env : Env) : seqK cl fu r .ct env = .ok (.ct, env) := (rfl)
end
theorem K_var (d : D) : varS (.val d) = .ok d := (rfl)
theorem K_l1 (d : D) : lend (.val d) = .ok d := (rfl)
theorem K_l2 (xs : List D) : lend (.own (.lst xs)) = .ok (.lst xs) := (rfl)
theorem K_l3 (t : Bool) (kvs : List (D × D)) : lend (.own (.dic t kvs)) = .ok (.dic t kvs) := (rfl)
theorem K_l4 (xs : List D) : lend (.lent (.lst xs)) = .ok (.lst xs) := (rfl)
theorem K_l5 (t : Bool) (kvs : List (D × D)) : lend (.lent (.dic t kvs)) = .ok (.dic t kvs) := (rfl)
theorem K_ift {α : Type} (x y : Out α) : ifK (some true) x y = x := (rfl)
theorem K_iff {α : Type} (x y : Out α) : ifK (some false) x y = y := (rfl)
theorem K_if {α : Type} (b : Bool) (x y : Out α) : ifK (some b) x y = if b = true then x else y := by cases b <;> rfl
theorem K_ct1 (o' : Op) (y w : D) : chainK o' y (.ok w) (.bl true) = op o' [y, w] := (rfl)
theorem K_ct2 (o' : Op) (y : D) (w : Out D) : chainK o' y w (.bl false) = .ok (.bl false) := (rfl)
theorem K_ct3 (o' : Op) (y w : D) (b : Bool) : chainK o' y (.ok w) (.bl b) = if b = true then op o' [y, w] else .ok (.bl false) := by cases b <;> rfl
theorem K_io (cl : Cl) (f x : Nat) (ds : List D) (env1 : Env) (xs : List D) : getIoK cl f x ds env1 (.own (.lst xs)) = (cl.io f xs ds).bind fun p => .ok (p.1, env1.set x (.own (.lst p.2))) := (rfl)
theorem K_pop (x : Nat) (env : Env) (xs : List D) (d : D) : popK x env (.own (.lst (xs ++ [d]))) = .ok (d, env.set x (.own (.lst xs))) := by simp [popK]
theorem K_frz (env : Env) (i : Nat) (o : Own) : frzK env i (.own o) = env.set i (.val o.frz) := (rfl)
theorem K_frz1 (env : Env) (i : Nat) (d : D) : frzK env i (.val d) = env := (rfl)
theorem K_fl (xs : List D) : (Own.lst xs).frz = .lst xs := (rfl)
theorem K_fll (xs : List (List D)) : (Own.lls xs).frz = .lst (xs.map D.lst) := (rfl)
theorem K_fd (t : Bool) (kvs : List (D × D)) : (Own.dic t kvs).frz = .dic t kvs := (rfl)
theorem K_ioE (d : D) (xs : List D) : ioEnd d (.own (.lst xs)) = .ok (d, xs) := (rfl)
theorem K_frE (cl : Cl) (r : F) (env : Env) : frEnd cl r .nx env = evF cl r env := (rfl)
theorem K_own (o : Own) : isOwn (.own o) = true := (rfl)
theorem K_ownL (xs : List D) : isOwnL (.own (.lst xs)) = true := (rfl)
theorem K_ownLL (xs : List (List D)) : isOwnL (.own (.lls xs)) = true := (rfl)
theorem K_rs (d : D) : resOf (.rt d) = .ok d := (rfl)
theorem K_rn : resOf .nx = .ok .non := (rfl)
theorem K_so1 (d : D) : slotOf (.val d) = .val d := (rfl)
theorem K_so2 (o : Own) : slotOf (.own o) = .own o := (rfl)
theorem K_b1 (i : Nat) (d : D) (env : Env) : bindT (.one i) d env = .ok (env.set i (.val d)) := (rfl)
theorem K_bm (is : List Nat) (ds : List D) (env : Env) : bindT (.many is) (.tup ds) env = ofO (setsS env is ds) := (rfl)
theorem K_s0 (env : Env) : setsS env [] [] = some env := (rfl)
theorem K_s1 (env : Env) (i : Nat) (is : List Nat) (d : D) (ds : List D) : setsS env (i :: is) (d :: ds) = setsS (env.set i (.val d)) is ds := (rfl)
theorem K_w0 (env : Env) : wipeS env [] = env := (rfl)
theorem K_w1 (env : Env) (i : Nat) (is : List Nat) : wipeS env (i :: is) = (wipeS env is).set i .no := (rfl)
theorem K_o1 {α : Type} (x : α) : ofO (some x) = .ok x := (rfl)
theorem K_app (i : Nat) (env : Env) (d : D) (xs : List D) (h : xs.length + 1 ≤ 16777216) : appD i env d (.own (.lst xs)) = .ok (.nx, env.set i (.own (.lst (xs ++ [d])))) := by
  show chk (decide _) _ = _
  rw [decide_eq_true h]
  rfl
theorem K_appF0 (i : Nat) (env : Env) (ds : List D) : appFD i env ds (.own (.lst [])) = .ok (.nx, env.set i (.own (.lls [ds]))) := (rfl)
theorem K_appF (i : Nat) (env : Env) (ds : List D) (xs : List (List D)) (h : xs.length + 1 ≤ 16777216) : appFD i env ds (.own (.lls xs)) = .ok (.nx, env.set i (.own (.lls (xs ++ [ds])))) := by
  cases xs with
  | nil => rfl
  | cons x xs =>
    show chk (decide _) _ = _
    rw [decide_eq_true h]
    rfl
/-! ### calls -/
theorem C_v (cl : Cl) (fu np n : Nat) (b : Ss) (ds : List D) (h : (np == ds.length) = true) : callV cl fu (Fn.mk np n false none b) ds = (execs cl fu b (entry n (ds.map .val))).bind fun p => resOf p.1 := by
  unfold callV
  simp only [h, Bool.not_false, Option.isNone_none, Bool.and_true, chk_true]
theorem C_i (cl : Cl) (fu np n : Nat) (b : Ss) (xs ds : List D) (h : (np == ds.length + 1) = true) : callI cl fu (Fn.mk np n true none b) xs ds = (execs cl fu b (entry n (.own (.lst xs) :: ds.map .val))).bind fun p => (resOf p.1).bind fun d => ioEnd d (p.2.getD 0 .no) := by
  unfold callI
  simp only [h, Option.isNone_none, Bool.and_true, chk_true]
  congr 1
theorem C_r (cl : Cl) (fu np n : Nat) (b : Ss) (r : F) (ds : List D) (h : (np == ds.length) = true) : callR cl fu (Fn.mk np n false (some r) b) ds = (execs cl fu b (entry n (ds.map .val))).bind fun p => frEnd cl r p.1 p.2 := by
  unfold callR
  simp only [h, Bool.not_false, Bool.and_true, chk_true]
  congr 1; funext p
  obtain ⟨fl, e⟩ := p
  cases fl <;> rfl
theorem K_bok {α β : Type} (a : α) (f : α → Out β) : (Out.ok a).bind f = f a := (rfl)
theorem K_bexc {α β : Type} (c : Nat) (p : List D) (f : α → Out β) : (Out.exc c p : Out α).bind f = .exc c p := (rfl)
theorem K_bbad {α β : Type} (f : α → Out β) : (Out.bad : Out α).bind f = .bad := (rfl)
theorem K_chkt {α : Type} (x : Out α) : chk true x = x := (rfl)
theorem K_chkf {α : Type} (x : Out α) : chk false x = .bad := (rfl)
theorem K_assoc {α β γ : Type} (x : Out α) (f : α → Out β) (g : β → Out γ) : (x.bind f).bind g = x.bind fun a => (f a).bind g := by cases x <;> rfl
theorem K_cast (n : Nat) : ((no_index (@OfNat.ofNat Nat n (instOfNatNat n)) : Nat) : Int) = @OfNat.ofNat Int n (@instOfNat n) := (rfl)
theorem K_setS (env : Env) (i : Nat) (d : D) : setS env i d = env.set i (.val d) := (rfl)
/-- behind a walk -/
theorem for_then {α : Type} {X : Out (Fl × Env)} {K : Fl × Env → Out α} {R : Out α} {P : Env → Prop} (h : ∃ e2, X = .ok (.nx, e2) ∧ P e2) (k : ∀ e2, P e2 → K (.nx, e2) = R) : X.bind K = R := by
  obtain ⟨e2, h1, h2⟩ := h
  rw [h1]
  exact k e2 h2
theorem for_then2 {X : Out (Fl × Env)} {K : Fl × Env → Out (Fl × Env)} {R P : Env → Prop} (h : ∃ e2, X = .ok (.nx, e2) ∧ P e2) (k : ∀ e2, P e2 → ∃ e3, K (.nx, e2) = .ok (.nx, e3) ∧ R e3) : ∃ e3, X.bind K = .ok (.nx, e3) ∧ R e3 := by
  obtain ⟨e2, h1, h2⟩ := h
  obtain ⟨e3, h3, h4⟩ := k e2 h2
  refine ⟨e3, ?_, h4⟩
  rw [h1]
  exact h3
/-! ### operations -/
theorem O_and1 (b : Bool) : truth (.bl b) = some b := (rfl)
theorem O_int (i : Int) : truth (.int i) = some (i != 0) := (rfl)
theorem O_non : truth .non = some false := (rfl)
theorem O_lst (xs : List D) : truth (.lst xs) = some (!xs.isEmpty) := (rfl)
theorem O_tup (xs : List D) : truth (.tup xs) = some (!xs.isEmpty) := (rfl)
theorem O_add (i j : Int) : op .add [.int i, .int j] = .ok (.int (i + j)) := (rfl)
theorem O_sub (i j : Int) : op .sub [.int i, .int j] = .ok (.int (i - j)) := (rfl)
theorem O_adl (x y : List D) (h : x.length + y.length ≤ 16777216) : op .add [.lst x, .lst y] = .ok (.lst (x ++ y)) := by
  show chk (decide _) _ = _
  rw [decide_eq_true h]; rfl
theorem O_adt (x y : List D) (h : x.length + y.length ≤ 16777216) : op .add [.tup x, .tup y] = .ok (.tup (x ++ y)) := by
  show chk (decide _) _ = _
  rw [decide_eq_true h]; rfl
theorem O_ads (x y : List Nat) (h : x.length + y.length ≤ 16777216) : op .add [.str x, .str y] = .ok (.str (x ++ y)) := by
  show chk (decide _) _ = _
  rw [decide_eq_true h]; rfl
theorem O_mul (i j : Int) (h : (small i || small j) = true) : op .mul [.int i, .int j] = .ok (.int (i * j)) := by
  show chk _ _ = _
  rw [h]; rfl
theorem O_fdiv (i j : Int) (h : 0 < j ∧ j < 1073741824) : op .fdiv [.int i, .int j] = .ok (.int (i / j)) := by
  show chk (decide _) _ = _
  rw [decide_eq_true h]; rfl
theorem O_mod (i j : Int) (h : 0 < j) : op .mod [.int i, .int j] = .ok (.int (i % j)) := by
  show chk (decide _) _ = _
  rw [decide_eq_true h]; rfl
theorem O_neg (i : Int) : op .neg [.int i] = .ok (.int (-i)) := (rfl)
theorem O_abs (i : Int) : op .abs [.int i] = .ok (.int (if i < 0 then -i else i)) := (rfl)
theorem O_toint (i : Int) : op .int [.int i] = .ok (.int i) := (rfl)
theorem O_lt (i j : Int) : op .lt [.int i, .int j] = .ok (.bl (decide (i < j))) := (rfl)
theorem O_le (i j : Int) : op .le [.int i, .int j] = .ok (.bl (decide (i ≤ j))) := (rfl)
theorem O_gt (i j : Int) : op .gt [.int i, .int j] = .ok (.bl (decide (j < i))) := (rfl)
theorem O_ge (i j : Int) : op .ge [.int i, .int j] = .ok (.bl (decide (j ≤ i))) := (rfl)
theorem O_eq (a b : D) : op .eq [a, b] = opEq false a b := (rfl)
theorem O_ne (a b : D) : op .ne [a, b] = opEq true a b := (rfl)
theorem O_in (a b : D) : op .isin [a, b] = opIn false a b := (rfl)
theorem O_notin (a b : D) : op .notin [a, b] = opIn true a b := (rfl)
theorem O_isN (a : D) : op .isN [a] = .ok (.bl (isNon a)) := (rfl)
theorem O_isntN (a : D) : op .isntN [a] = .ok (.bl (!isNon a)) := (rfl)
theorem O_idx (a b : D) : op .idx [a, b] = opIdx a b := (rfl)
theorem O_get2 (a b c : D) : op .get2 [a, b, c] = opGet2 a b c := (rfl)
theorem O_lenl (x : List D) : op .len [.lst x] = .ok (.int x.length) := (rfl)
theorem O_lent (x : List D) : op .len [.tup x] = .ok (.int x.length) := (rfl)
theorem O_lend (t : Bool) (x : List (D × D)) : op .len [.dic t x] = .ok (.int x.length) := (rfl)
theorem O_lens (x : List Nat) (h : x.length ≤ 16777216) : op .len [.str x] = .ok (.int x.length) := by
  show chk (decide _) _ = _
  rw [decide_eq_true h]; rfl
theorem O_tuple1 (x : List D) : op .tuple [.lst x] = .ok (.tup x) := (rfl)
theorem O_tuple2 (x : List D) : op .tuple [.tup x] = .ok (.tup x) := (rfl)
theorem O_isi (t : String) (a : D) : op (.isi t) [a] = opIsi t a := (rfl)
theorem O_join (a b : D) : op .join [a, b] = opJoin a b := (rfl)
theorem O_revt (x : List D) : op .rev [.tup x] = .ok (.tup x.reverse) := (rfl)
theorem O_revl (x : List D) : op .rev [.lst x] = .ok (.lst x.reverse) := (rfl)
theorem O_revs (x : List Nat) (h : x.length ≤ 16777216) : op .rev [.str x] = .ok (.str x.reverse) := by
  show chk (decide _) _ = _
  rw [decide_eq_true h]; rfl
theorem O_max2 (i j : Int) : op .max2 [.int i, .int j] = .ok (.int (if j > i then j else i)) := (rfl)
theorem O_min2 (i j : Int) : op .min2 [.int i, .int j] = .ok (.int (if j < i then j else i)) := (rfl)
theorem O_iI (t : String) (i : Int) : opIsi t (.int i) = .ok (.bl ("int" == t || (t == "int" && "int" == "bool"))) := (rfl)
theorem O_iB (t : String) (i : Bool) : opIsi t (.bl i) = .ok (.bl ("bool" == t || (t == "int" && "bool" == "bool"))) := (rfl)
theorem O_iS (t : String) (i : List Nat) : opIsi t (.str i) = .ok (.bl ("str" == t || (t == "int" && "str" == "bool"))) := (rfl)
theorem O_iT (t : String) (i : List D) : opIsi t (.tup i) = .ok (.bl ("tuple" == t || (t == "int" && "tuple" == "bool"))) := (rfl)
theorem O_iL (t : String) (i : List D) : opIsi t (.lst i) = .ok (.bl ("list" == t || (t == "int" && "list" == "bool"))) := (rfl)
theorem O_iN (t : String) : opIsi t .non = .ok (.bl ("NoneType" == t || (t == "int" && "NoneType" == "bool"))) := (rfl)
theorem O_isNn : isNon .non = true := (rfl)
theorem O_isNi (i : Int) : isNon (.int i) = false := (rfl)
theorem O_isNb (i : Bool) : isNon (.bl i) = false := (rfl)
theorem O_isNs (i : List Nat) : isNon (.str i) = false := (rfl)
theorem O_isNt (i : List D) : isNon (.tup i) = false := (rfl)
theorem O_isNl (i : List D) : isNon (.lst i) = false := (rfl)
theorem O_it1 (xs : List D) : itemsOf (.lst xs) = .ok xs := (rfl)
theorem O_it2 (xs : List D) : itemsOf (.tup xs) = .ok xs := (rfl)
theorem O_its (x : List Nat) (h : x.length ≤ 16777216) : itemsOf (.str x) = .ok (x.map fun c => .str [c]) := by
  show chk (decide _) _ = _
  rw [decide_eq_true h]; rfl
theorem O_rng1 (j : Int) (h : -1000000000 ≤ j ∧ j < 1000000000) : rng [.int j] = .ok (rngL 0 j.toNat) := by
  show chk (decide _) _ = _
  rw [decide_eq_true (by omega)]; rfl
theorem O_rng2 (i j : Int) (h : -1000000000 ≤ i ∧ i < 1000000000 ∧ -1000000000 ≤ j ∧ j < 1000000000) : rng [.int i, .int j] = .ok (rngL i (j - i).toNat) := by
  show chk (decide _) _ = _
  rw [decide_eq_true (by omega)]; rfl
theorem O_fcat (x y : List D) (h : x.length + y.length ≤ 16777216) : fop .cat [.lst x, .lst y] = .ok (x ++ y) := by
  show chk (decide _) _ = _
  rw [decide_eq_true h]; rfl
theorem O_flist1 (x : List D) : fop .list [.scr x] = .ok x := (rfl)
theorem O_flist2 (x : List D) : fop .list [.lst x] = .ok x := (rfl)
theorem O_flist3 (x : List D) : fop .list [.tup x] = .ok x := (rfl)
theorem O_fsort (x : D) : fop .sorted [x] = fSorted x := (rfl)
theorem O_bls (xs : List Bool) : blsOf (xs.map .bl) = some xs := by
  induction xs with
  | nil => rfl
  | cons b xs ih => show (blsOf (xs.map .bl)).map (b :: ·) = _; rw [ih]; rfl
theorem O_all (xs : List Bool) : op .all [.lst (xs.map .bl)] = .ok (.bl (xs.all id)) := by
  show (ofO (blsOf (xs.map .bl))).bind _ = _
  rw [O_bls]; rfl
theorem O_any (xs : List Bool) : op .any [.lst (xs.map .bl)] = .ok (.bl (xs.any id)) := by
  show (ofO (blsOf (xs.map .bl))).bind _ = _
  rw [O_bls]; rfl
theorem O_ints (xs : List Int) : intsOf (xs.map .int) = some xs := by
  induction xs with
  | nil => rfl
  | cons b xs ih => show (intsOf (xs.map .int)).map (b :: ·) = _; rw [ih]; rfl
theorem O_sum (xs : List Int) : op .sum [.lst (xs.map .int)] = .ok (.int xs.sum) := by
  show (ofO (intsOf (xs.map .int))).bind _ = _
  rw [O_ints]; rfl
theorem O_strs (xs : List (List Nat)) : strsOf (xs.map .str) = some xs := by
  induction xs with
  | nil => rfl
  | cons b xs ih => show (strsOf (xs.map .str)).map (b :: ·) = _; rw [ih]; rfl
theorem O_eqk {neg : Bool} {a b : D} (ha : shp 64 a = true) (hb : shp 64 b = true) : opEq neg a b = .ok (.bl (neg != eqv a b)) := by
  unfold opEq
  rw [ha, hb]; rfl
theorem mulS0 (x : List Nat) (k : Int) : op .mul [.str x, .int k] = chk (inIx k && inLim (x.length * k.toNat)) (.ok (.str (repL k.toNat x))) := rfl
theorem mulL0 (x : List D) (k : Int) : op .mul [.lst x, .int k] = chk (inIx k && inLim (x.length * k.toNat)) (.ok (.lst (repL k.toNat x))) := rfl
theorem repL0 (x : List D) (k : Int) : fop .rep [.lst x, .int k] = chk (inIx k && inLim (x.length * k.toNat)) (.ok (repL k.toNat x)) := rfl
theorem mulT0 (x : List D) (k : Int) : op .mul [.tup x, .int k] = chk (!x.isEmpty && decide (1 ≤ k ∧ k ≤ 1000 ∧ x.length ≤ 1000)) (.ok (.tup (repL k.toNat x))) := rfl
theorem inLim_ok {n : Nat} (h : n ≤ 16777216) : inLim n = true := decide_eq_true h
theorem inIx_ok {k : Int} (h : -1000000 ≤ k ∧ k ≤ 1000000) : inIx k = true := decide_eq_true (by omega)
theorem O_mulS (x : List Nat) (k : Nat) (h : k ≤ 1000000 ∧ x.length * k ≤ 16777216) : op .mul [.str x, .int (k : Int)] = .ok (.str (repL k x)) := by
  rw [mulS0, Int.toNat_natCast, inLim_ok h.2, inIx_ok (by omega)]; rfl
theorem O_mulT (x : List D) (k : Nat) (h : 1 ≤ x.length ∧ x.length ≤ 1000 ∧ 1 ≤ k ∧ k ≤ 1000) : op .mul [.tup x, .int (k : Int)] = .ok (.tup (repL k x)) := by
  rw [mulT0, Int.toNat_natCast, decide_eq_true (by omega)]
  cases x with
  | nil => simp at h
  | cons a x => rfl
theorem O_mulL (x : List D) (k : Nat) (h : k ≤ 1000000 ∧ x.length * k ≤ 16777216) : op .mul [.lst x, .int (k : Int)] = .ok (.lst (repL k x)) := by
  rw [mulL0, Int.toNat_natCast, inLim_ok h.2, inIx_ok (by omega)]; rfl
theorem O_frep (x : List D) (k : Nat) (h : k ≤ 1000000 ∧ x.length * k ≤ 16777216) : fop .rep [.lst x, .int (k : Int)] = .ok (repL k x) := by
  rw [repL0, Int.toNat_natCast, inLim_ok h.2, inIx_ok (by omega)]; rfl
theorem repL_one {α : Type} (k : Nat) (x : α) : repL k [x] = (List.range k).map fun _ => x := by
  unfold repL
  induction k with
  | zero => rfl
  | succ k ih =>
    rw [List.range_succ, List.map_append, ← ih, List.replicate_succ']
    simp
/-! ### places in lists -/
theorem at_nat {α : Type} {xs : List α} {k : Nat} (h : k < xs.length) : atI xs (k : Int) = some xs[k] := by
  unfold atI ixN
  rw [if_pos (by omega), if_pos (by omega)]
  show xs[Int.toNat (k : Int)]? = _
  rw [Int.toNat_natCast, List.getElem?_eq_getElem h]
theorem at_int {α : Type} {xs : List α} {i : Int} {a : α} (h0 : 0 ≤ i) (h : xs[i.toNat]? = some a) : atI xs i = some a := by
  have : i.toNat < xs.length := (List.getElem?_eq_some_iff.mp h).1
  unfold atI ixN
  rw [if_pos h0, if_pos (by omega)]
  exact h
theorem ix_nat {n k : Nat} (h : k < n) : ixN n (k : Int) = some k := by
  unfold ixN
  rw [if_pos (by omega), if_pos (by omega), Int.toNat_natCast]
theorem at_zero {α : Type} (x : α) (xs : List α) : atI (x :: xs) 0 = some x := by
  unfold atI ixN
  rw [if_pos (by omega), if_pos (by simp <;> omega)]
  rfl
theorem at_one {α : Type} (x y : α) (xs : List α) : atI (x :: y :: xs) 1 = some y := by
  unfold atI ixN
  rw [if_pos (by omega), if_pos (by simp <;> omega)]
  rfl
theorem at_two {α : Type} (x y w : α) (xs : List α) : atI (x :: y :: w :: xs) 2 = some w := by
  unfold atI ixN
  rw [if_pos (by omega), if_pos (by simp <;> omega)]
  rfl
theorem O_idl (xs : List D) (i : Int) : opIdx (.lst xs) (.int i) = ofO (atI xs i) := (rfl)
theorem O_idt (xs : List D) (i : Int) : opIdx (.tup xs) (.int i) = ofO (atI xs i) := (rfl)
theorem O_ids (x : List Nat) (i : Int) (h : x.length ≤ 16777216) : opIdx (.str x) (.int i) = (ofO (atI x i)).bind fun c => .ok (.str [c]) := by
  show chk (decide _) _ = _
  rw [decide_eq_true h]; rfl
theorem rng_len (i : Int) (n : Nat) : (rngL i n).length = n := by simp [rngL]
theorem rng0 (n : Nat) : rngL 0 n = (List.range n).map fun (k : Nat) => D.int (k : Int) := by simp [rngL]
theorem K_rngN (n : Nat) : rngL 0 (n : Int).toNat = (List.range n).map fun (k : Nat) => D.int (k : Int) := by rw [Int.toNat_natCast, rng0]
theorem enum_map {α : Type} (enc : α → D) : ∀ (xs : List α) (i : Nat), enumL i (xs.map enc) = (xs.zipIdx i).map fun p => .tup [.int p.2, enc p.1]
  | [], _ => rfl
  | x :: xs, i => by
    show .tup [.int i, enc x] :: enumL (i + 1) (xs.map enc) = _
    rw [enum_map enc xs (i + 1)]
    rfl
/-! ### loops -/
theorem for_inv {α σ : Type} {body : Env → Out (Fl × Env)} {tg : Tg} (enc : α → D) (I : σ → Env → Prop) (f : σ → α → σ) (h : ∀ s a env, I s env → ∃ e1, bindT tg (enc a) env = .ok e1 ∧ ∃ e2, body e1 = .ok (.nx, e2) ∧ I (f s a) e2) :
    ∀ (l : List α) (s : σ) (env : Env), I s env → ∃ e2, forL body tg (l.map enc) env = .ok (.nx, e2) ∧ I (l.foldl f s) e2
  | [], s, env, hi => ⟨env, rfl, hi⟩
  | a :: l, s, env, hi => by
    obtain ⟨e1, h1, e2, h2, h3⟩ := h s a env hi
    obtain ⟨e3, h4, h5⟩ := for_inv enc I f h l (f s a) e2 h3
    refine ⟨e3, ?_, h5⟩
    show (bindT tg (enc a) env).bind _ = _
    rw [h1]
    show (body e1).bind _ = _
    rw [h2]
    exact h4
/-- with the items' memberships and what is walked so far -/
theorem for_go {α : Type} {body : Env → Out (Fl × Env)} {tg : Tg} (enc : α → D) (I : List α → Env → Prop) (l : List α) (h : ∀ p a q env, l = p ++ a :: q → I p env → ∃ e1, bindT tg (enc a) env = .ok e1 ∧ ∃ e2, body e1 = .ok (.nx, e2) ∧ I (p ++ [a]) e2) :
    ∀ (p r : List α) (env : Env), l = p ++ r → I p env → ∃ e2, forL body tg (r.map enc) env = .ok (.nx, e2) ∧ I l e2
  | p, [], env, e, hi => ⟨env, rfl, by rw [e, List.append_nil]; exact hi⟩
  | p, a :: r, env, e, hi => by
    obtain ⟨e1, h1, e2, h2, h3⟩ := h p a r env e hi
    obtain ⟨e3, h4, h5⟩ := for_go enc I l h (p ++ [a]) r e2 (by simp [e]) h3
    refine ⟨e3, ?_, h5⟩
    show (bindT tg (enc a) env).bind _ = _
    rw [h1]
    show (body e1).bind _ = _
    rw [h2]
    exact h4
/-- a walk that may end with an answer: every turn goes on, or the first that does not answers d -/
theorem for_ret {α : Type} {body : Env → Out (Fl × Env)} {tg : Tg} (enc : α → D) (I : List α → Env → Prop) (stop : α → Option D) (l : List α) (h : ∀ p a q env, l = p ++ a :: q → (∀ b ∈ p, stop b = none) → I p env → ∃ e1, bindT tg (enc a) env = .ok e1 ∧ ∃ e2, match stop a with
      | none => body e1 = .ok (.nx, e2) ∧ I (p ++ [a]) e2
      | some d => body e1 = .ok (.rt d, e2)) :
    ∀ (p r : List α) (env : Env), l = p ++ r → (∀ b ∈ p, stop b = none) → I p env → ∃ e2, match r.findSome? stop with
      | none => forL body tg (r.map enc) env = .ok (.nx, e2) ∧ I l e2
      | some d => forL body tg (r.map enc) env = .ok (.rt d, e2)
  | p, [], env, e, _, hi => ⟨env, rfl, by rw [e, List.append_nil]; exact hi⟩
  | p, a :: r, env, e, hp, hi => by
    obtain ⟨e1, h1, e2, h2⟩ := h p a r env e hp hi
    cases q : stop a with
    | some d =>
      rw [q] at h2
      refine ⟨e2, ?_⟩
      rw [List.findSome?_cons, q]
      show (bindT tg (enc a) env).bind _ = _
      rw [h1]
      show (body e1).bind _ = _
      rw [h2]
      rfl
    | none =>
      rw [q] at h2
      have hp' : ∀ b ∈ p ++ [a], stop b = none := fun b hb => by
        rcases List.mem_append.mp hb with hb | hb
        · exact hp b hb
        · rw [List.mem_singleton.mp hb, q]
      obtain ⟨e3, h4⟩ := for_ret enc I stop l h (p ++ [a]) r e2 (by simp [e]) hp' h2.2
      refine ⟨e3, ?_⟩
      rw [List.findSome?_cons, q]
      have hs : forL body tg ((a :: r).map enc) env = forL body tg (r.map enc) e2 := by
        show (bindT tg (enc a) env).bind _ = _
        rw [h1]
        show (body e1).bind _ = _
        rw [h2.1]
        rfl
      rw [hs]
      exact h4
theorem comp_ok {α : Type} {cl : Cl} {elt cond : P} {tg : Tg} {env : Env} (enc : α → D) (p : α → Bool) (g : α → D) (xs : List α) (hl : xs.length ≤ 16777216) (h : ∀ a ∈ xs, ∃ e1, bindT tg (enc a) env = .ok e1 ∧ ev cl cond e1 = .ok (.bl (p a)) ∧ (p a = true → ev cl elt e1 = .ok (g a))) :
    compK cl elt cond tg env (xs.map enc) = .ok ((xs.filter p).map g) := by
  unfold compK inLim
  rw [List.length_map, decide_eq_true hl, chk_true]
  have : ∀ a ∈ xs, itemK cl elt cond tg env (enc a) = .ok (if p a = true then [g a] else []) := fun a ha => by
    obtain ⟨e1, h1, h2, h3⟩ := h a ha
    unfold itemK
    rw [h1, Out.bind_ok, h2, Out.bind_ok, O_and1]
    cases q : p a with
    | true => rw [K_ift, h3 q]; rfl
    | false => rw [K_iff]; rfl
  clear h hl
  induction xs with
  | nil => rfl
  | cons a xs ih =>
    show (itemK cl elt cond tg env (enc a)).bind _ = _
    rw [this a List.mem_cons_self, Out.bind_ok]
    show (mapO _ (xs.map enc)).bind _ = _
    rw [ih fun b hb => this b (List.mem_cons_of_mem _ hb), Out.bind_ok, List.filter_cons]
    split <;> rfl
theorem comp_all {α : Type} {cl : Cl} {elt : P} {tg : Tg} {env : Env} (enc : α → D) (g : α → D) (xs : List α) (hl : xs.length ≤ 16777216) (h : ∀ a ∈ xs, ∃ s e1, bindT tg (enc a) env = .ok (s :: e1) ∧ ev cl elt (s :: e1) = .ok (g a)) :
    compK cl elt (.con (.bl true)) tg env (xs.map enc) = .ok (xs.map g) := by
  have := comp_ok (cl := cl) (elt := elt) (cond := .con (.bl true)) (tg := tg) (env := env) enc (fun _ => true) g xs hl fun a ha => by
    obtain ⟨s, e1, h1, h2⟩ := h a ha
    exact ⟨s :: e1, h1, rfl, fun _ => h2⟩
  rw [this, List.filter_eq_self.mpr fun _ _ => rfl]
theorem ll_ok {α : Type} {cl : Cl} {elt : F} {tg : Tg} {env : Env} (enc : α → D) (g : α → List D) (xs : List α) (hl : xs.length ≤ 16777216) (h : ∀ a ∈ xs, ∃ e1, bindT tg (enc a) env = .ok e1 ∧ evF cl elt e1 = .ok (g a)) :
    llsK cl elt tg env (xs.map enc) = .ok (xs.map g) := by
  unfold llsK inLim
  rw [List.length_map, decide_eq_true hl, chk_true]
  clear hl
  induction xs with
  | nil => rfl
  | cons a xs ih =>
    obtain ⟨e1, h1, h2⟩ := h a List.mem_cons_self
    show (llK cl elt tg env (enc a)).bind _ = _
    have e : llK cl elt tg env (enc a) = .ok [g a] := by
      unfold llK
      rw [h1, Out.bind_ok, h2, Out.bind_ok]
    rw [e, Out.bind_ok]
    show (mapO _ (xs.map enc)).bind _ = _
    rw [show mapO (llK cl elt tg env) (xs.map enc) = .ok (xs.map g) from ih fun b hb => h b (List.mem_cons_of_mem _ hb)]
    rfl
/-- a while walk by a measure -/
theorem while_inv {σ : Type} {c : Env → Out D} {body : Env → Out (Fl × Env)} (I : σ → Env → Prop) (go : σ → Option σ) (m : σ → Nat)
    (h0 : ∀ s env, I s env → go s = none → ∃ d, c env = .ok d ∧ truth d = some false)
    (h1 : ∀ s s' env, I s env → go s = some s' → (∃ d, c env = .ok d ∧ truth d = some true) ∧ ∃ e2, body env = .ok (.nx, e2) ∧ I s' e2)
    (hm : ∀ s s', go s = some s' → m s' < m s) : ∀ (fu : Nat) (s : σ) (env : Env), I s env → m s < fu → ∃ s' e2, whileL c body fu env = .ok (.nx, e2) ∧ I s' e2 ∧ go s' = none
  | 0, _, _, _, h => absurd h (by omega)
  | fu + 1, s, env, hi, hf => by
    cases q : go s with
    | none =>
      obtain ⟨d, h2, h3⟩ := h0 s env hi q
      refine ⟨s, env, ?_, hi, q⟩
      show (c env).bind _ = _
      rw [h2, Out.bind_ok, h3]
      rfl
    | some s' =>
      obtain ⟨⟨d, h2, h3⟩, e2, h4, h5⟩ := h1 s s' env hi q
      have := hm s s' q
      obtain ⟨s2, e3, h6, h7, h8⟩ := while_inv I go m h0 h1 hm fu s' e2 h5 (by omega)
      refine ⟨s2, e3, ?_, h7, h8⟩
      show (c env).bind _ = _
      rw [h2, Out.bind_ok, h3]
      show (body env).bind _ = _
      rw [h4]
      exact h6
end RE
end

section
set_option linter.all false
set_option maxRecDepth 100000
set_option maxHeartbeats 4000000
/-! RM2: data by encodings: equality, membership, sorting, dicts. -/
namespace RE
open PySem L2
/-! ### equality -/
/-- == of encoded things is their equality -/
def Enc {α : Type} (enc : α → D) : Prop := ∀ x y, eqv (enc x) (enc y) = true ↔ x = y
def Shp {α : Type} (n : Nat) (enc : α → D) : Prop := ∀ x, shp n (enc x) = true
theorem Enc.eq {α : Type} [DecidableEq α] {enc : α → D} (h : Enc enc) (x y : α) : eqv (enc x) (enc y) = decide (x = y) := by
  cases q : eqv (enc x) (enc y) with
  | true => exact (decide_eq_true ((h x y).mp q)).symm
  | false =>
    refine (decide_eq_false fun e => ?_).symm
    rw [(h x y).mpr e] at q
    cases q
theorem Enc.inj {α : Type} {enc : α → D} (h : Enc enc) {x y : α} (e : enc x = enc y) : x = y := (h x y).mp (by rw [e]; exact (h y y).mpr rfl)
theorem enc_int : Enc D.int := fun x y => by simp [eqv]
theorem enc_str : Enc D.str := fun x y => by simp [eqv]
theorem enc_bl : Enc D.bl := fun x y => by simp [eqv]
theorem enc_map {α : Type} {enc : α → D} (h : Enc enc) : ∀ xs ys : List α, eqvs (xs.map enc) (ys.map enc) = true ↔ xs = ys
  | [], [] => by simp [eqvs]
  | [], y :: ys => by simp [eqvs]
  | x :: xs, [] => by simp [eqvs]
  | x :: xs, y :: ys => by
    show (eqv (enc x) (enc y) && eqvs (xs.map enc) (ys.map enc)) = true ↔ _
    rw [Bool.and_eq_true, h, enc_map h xs ys, List.cons.injEq]
theorem enc_lst {α : Type} {enc : α → D} (h : Enc enc) : Enc fun xs : List α => D.lst (xs.map enc) := fun x y => by
  show eqvs _ _ = true ↔ _
  exact enc_map h x y
theorem enc_tup {α : Type} {enc : α → D} (h : Enc enc) : Enc fun xs : List α => D.tup (xs.map enc) := fun x y => by
  show eqvs _ _ = true ↔ _
  exact enc_map h x y
theorem enc_pair {α β : Type} {e1 : α → D} {e2 : β → D} (h1 : Enc e1) (h2 : Enc e2) : Enc fun p : α × β => D.tup [e1 p.1, e2 p.2] := fun x y => by
  show (eqv (e1 x.1) (e1 y.1) && (eqv (e2 x.2) (e2 y.2) && true)) = true ↔ _
  rw [Bool.and_true, Bool.and_eq_true, h1, h2]
  exact ⟨fun h => Prod.ext h.1 h.2, fun h => by rw [h]; exact ⟨rfl, rfl⟩⟩
/-- a square -/
def sqD (p : Int × Int) : D := .tup [.int p.1, .int p.2]
theorem enc_sq : Enc sqD := enc_pair enc_int enc_int
theorem shp_int (n : Nat) : Shp n D.int := fun _ => by cases n <;> rfl
theorem shp_bl (n : Nat) : Shp n D.bl := fun _ => by cases n <;> rfl
theorem shp_sq (n : Nat) : Shp (n + 1) sqD := fun _ => by
  show ([_, _] : List D).all (shp n) = true
  simp [shp_int n _]
theorem shpE_tup {α : Type} {n : Nat} {enc : α → D} (h : Shp n enc) : Shp (n + 1) fun xs : List α => D.tup (xs.map enc) := fun xs => by
  show (xs.map enc).all (shp n) = true
  rw [List.all_map, List.all_eq_true]
  exact fun x _ => h x
theorem shpE_lst {α : Type} {n : Nat} {enc : α → D} (h : Shp n enc) : Shp (n + 1) fun xs : List α => D.lst (xs.map enc) := fun xs => by
  show (xs.map enc).all (shp n) = true
  rw [List.all_map, List.all_eq_true]
  exact fun x _ => h x
theorem shp_pair {α β : Type} {n : Nat} {e1 : α → D} {e2 : β → D} (h1 : Shp n e1) (h2 : Shp n e2) : Shp (n + 1) fun p : α × β => D.tup [e1 p.1, e2 p.2] := fun p => by
  show ([_, _] : List D).all (shp n) = true
  simp [h1 p.1, h2 p.2]
theorem shp_list (n : Nat) (xs : List D) : shp (n + 1) (.lst xs) = xs.all (shp n) := rfl
theorem shp_tupl (n : Nat) (xs : List D) : shp (n + 1) (.tup xs) = xs.all (shp n) := rfl
theorem shp_str (n : Nat) (x : List Nat) : shp n (.str x) = x.all fun c => decide (c < 1114112) := by cases n <;> rfl
mutual
theorem shp_up : ∀ (n : Nat) (d : D), shp n d = true → shp (n + 1) d = true
  | n, .non, _ => rfl
  | n, .bl _, _ => rfl
  | n, .int _, _ => rfl
  | n, .str x, h => by rw [shp_str] at h ⊢; exact h
  | 0, .tup _, h => by cases h
  | n + 1, .tup xs, h => shp_ups n xs h
  | 0, .lst _, h => by cases h
  | n + 1, .lst xs, h => shp_ups n xs h
  | n, .dic _ _, h => by cases n <;> cases h
  | n, .set _, h => by cases n <;> cases h
  | n, .fn _, h => by cases n <;> cases h
  | n, .ty _, h => by cases n <;> cases h
  | n, .scr _, h => by cases n <;> cases h
theorem shp_ups : ∀ (n : Nat) (xs : List D), xs.all (shp n) = true → xs.all (shp (n + 1)) = true
  | _, [], _ => rfl
  | n, x :: xs, h => by
    rw [List.all_cons, Bool.and_eq_true] at h ⊢
    exact ⟨shp_up n x h.1, shp_ups n xs h.2⟩
end
theorem shp_le {n m : Nat} {d : D} (h : shp n d = true) (hl : n ≤ m) : shp m d = true := by
  induction m with
  | zero => rw [show n = 0 by omega] at h; exact h
  | succ m ih =>
    by_cases e : n = m + 1
    · rw [← e]; exact h
    · exact shp_up m d (ih (by omega))
theorem Shp.le {α : Type} {enc : α → D} {n m : Nat} (h : Shp n enc) (hl : n ≤ m) : Shp m enc := fun x => shp_le (h x) hl
theorem opEq_enc {α : Type} [DecidableEq α] {enc : α → D} {neg : Bool} (h : Enc enc) {x y : α} (hx : shp 64 (enc x) = true) (hy : shp 64 (enc y) = true) : opEq neg (enc x) (enc y) = .ok (.bl (neg != decide (x = y))) := by
  rw [O_eqk hx hy, h.eq]
theorem opEq_int (neg : Bool) (x y : Int) : opEq neg (.int x) (.int y) = .ok (.bl (neg != decide (x = y))) := opEq_enc enc_int rfl rfl
theorem opEqB (neg : Bool) (x y : Bool) : opEq neg (.bl x) (.bl y) = .ok (.bl (neg != decide (x = y))) := opEq_enc enc_bl rfl rfl
theorem opEq_sq (neg : Bool) (x y : Int × Int) : opEq neg (sqD x) (sqD y) = .ok (.bl (neg != decide (x = y))) := opEq_enc enc_sq (shp_sq 63 x) (shp_sq 63 y)
def okS (x : List Nat) : Bool := x.all fun c => decide (c < 1114112)
theorem opEq_str {neg : Bool} {x y : List Nat} (hx : okS x = true) (hy : okS y = true) : opEq neg (.str x) (.str y) = .ok (.bl (neg != decide (x = y))) := opEq_enc enc_str (by rw [shp_str]; exact hx) (by rw [shp_str]; exact hy)
/-! ### membership -/
theorem any_enc {α : Type} [DecidableEq α] {enc : α → D} (h : Enc enc) (x : α) (ys : List α) : ((ys.map enc).any fun y => eqv y (enc x)) = decide (x ∈ ys) := by
  rw [List.any_map]
  cases q : ys.any ((fun y => eqv y (enc x)) ∘ enc) with
  | true =>
    obtain ⟨y, hy, e⟩ := List.any_eq_true.mp q
    have := (h y x).mp e
    exact (decide_eq_true (this ▸ hy)).symm
  | false =>
    refine (decide_eq_false fun hm => ?_).symm
    have := List.any_eq_false.mp q x hm
    exact this ((h x x).mpr rfl)
theorem in_tup {α : Type} [DecidableEq α] {enc : α → D} {neg : Bool} (h : Enc enc) (x : α) (ys : List α) (hx : shp 64 (enc x) = true) (hy : ∀ y ∈ ys, shp 63 (enc y) = true) : opIn neg (enc x) (.tup (ys.map enc)) = .ok (.bl (neg != decide (x ∈ ys))) := by
  have e : opIn neg (enc x) (.tup (ys.map enc)) = chk (shp 64 (enc x) && (ys.map enc).all (shp 63)) (.ok (.bl (neg != (ys.map enc).any fun y => eqv y (enc x)))) := by
    cases enc x <;> rfl
  have hy' : (ys.map enc).all (shp 63) = true := by
    rw [List.all_map, List.all_eq_true]; exact hy
  rw [e, hx, hy', any_enc h]
  rfl
theorem in_lst {α : Type} [DecidableEq α] {enc : α → D} {neg : Bool} (h : Enc enc) (x : α) (ys : List α) (hx : shp 64 (enc x) = true) (hy : ∀ y ∈ ys, shp 63 (enc y) = true) : opIn neg (enc x) (.lst (ys.map enc)) = .ok (.bl (neg != decide (x ∈ ys))) := by
  have e : opIn neg (enc x) (.lst (ys.map enc)) = chk (shp 64 (enc x) && (ys.map enc).all (shp 63)) (.ok (.bl (neg != (ys.map enc).any fun y => eqv y (enc x)))) := by
    cases enc x <;> rfl
  have hy' : (ys.map enc).all (shp 63) = true := by
    rw [List.all_map, List.all_eq_true]; exact hy
  rw [e, hx, hy', any_enc h]
  rfl
/-! ### sorting -/
section
variable {α : Type} (le : α → α → Bool)
def insT (x : α) : List α → List α
  | [] => [x]
  | y :: r => match le x y with
    | true => x :: y :: r
    | false => y :: insT x r
def isortT : List α → List α
  | [] => []
  | x :: r => insT le x (isortT r)
variable {le}
theorem insT_perm (x : α) : ∀ ys : List α, (insT le x ys).Perm (x :: ys)
  | [] => .refl _
  | y :: r => by
    unfold insT
    split
    · exact .refl _
    · exact ((insT_perm x r).cons y).trans (.swap x y r)
theorem isortT_perm : ∀ xs : List α, (isortT le xs).Perm xs
  | [] => .refl _
  | x :: r => (insT_perm x _).trans ((isortT_perm r).cons x)
theorem insT_sorted (tot : ∀ a b, le a b = false → le b a = true) (tr : ∀ a b c, le a b = true → le b c = true → le a c = true) (x : α) : ∀ ys : List α, ys.Pairwise (fun a b => le a b = true) → (insT le x ys).Pairwise (fun a b => le a b = true)
  | [], _ => by simp [insT]
  | y :: r, h => by
    unfold insT
    split
    · rename_i e
      rw [List.pairwise_cons] at h ⊢
      refine ⟨fun a ha => ?_, List.pairwise_cons.mpr h⟩
      rcases List.mem_cons.mp ha with rfl | ha
      · exact e
      · exact tr _ _ _ e (h.1 a ha)
    · rename_i e
      rw [List.pairwise_cons] at h ⊢
      refine ⟨fun a ha => ?_, insT_sorted tot tr x r h.2⟩
      rcases List.mem_cons.mp ((insT_perm x r).mem_iff.mp ha) with rfl | ha
      · exact tot _ _ e
      · exact h.1 a ha
theorem isortT_sorted (tot : ∀ a b, le a b = false → le b a = true) (tr : ∀ a b c, le a b = true → le b c = true → le a c = true) : ∀ xs : List α, (isortT le xs).Pairwise (fun a b => le a b = true)
  | [] => .nil
  | x :: r => insT_sorted tot tr x _ (isortT_sorted tot tr r)
theorem sort_unique (anti : ∀ a b, le a b = true → le b a = true → a = b) : ∀ {xs ys : List α}, xs.Perm ys → xs.Pairwise (fun a b => le a b = true) → ys.Pairwise (fun a b => le a b = true) → xs = ys
  | [], ys, p, _, _ => (List.nil_perm.mp p).symm
  | x :: xs, ys, p, hx, hy => by
    cases ys with
    | nil => exact absurd p.symm (by simp)
    | cons y ys =>
      rw [List.pairwise_cons] at hx hy
      have e : x = y := by
        rcases List.mem_cons.mp (p.mem_iff.mp List.mem_cons_self) with e | h1
        · exact e
        · rcases List.mem_cons.mp (p.mem_iff.mpr List.mem_cons_self) with e | h2
          · exact e.symm
          · exact anti _ _ (hx.1 y h2) (hy.1 x h1)
      subst e
      rw [sort_unique anti (List.perm_cons x |>.mp p) hx.2 hy.2]
end
/-- encoded things stand in an order of their own -/
structure OrdE {α : Type} (enc : α → D) (le : α → α → Bool) : Prop where
  le : ∀ a b, leD (enc a) (enc b) = le a b
  shp : ∀ a, RE.shp 64 (enc a) = true
  kind : (∀ a, isTup1 (enc a) = true) ∨ (∀ a, isOth (enc a) = true)
  alike : ∀ a b, PySem.W.alike (pd (enc a)) (pd (enc b)) = true
theorem ins_map {α : Type} {enc : α → D} {le : α → α → Bool} (h : ∀ a b, leD (enc a) (enc b) = le a b) (x : α) : ∀ ys : List α, ins (enc x) (ys.map enc) = (insT le x ys).map enc
  | [] => rfl
  | y :: r => by
    show (match leD (enc x) (enc y) with | true => enc x :: enc y :: r.map enc | false => enc y :: ins (enc x) (r.map enc)) = _
    rw [h, ins_map h x r]
    rw [insT]
    cases le x y <;> rfl
theorem isort_map {α : Type} {enc : α → D} {le : α → α → Bool} (h : ∀ a b, leD (enc a) (enc b) = le a b) : ∀ xs : List α, isort (xs.map enc) = (isortT le xs).map enc
  | [] => rfl
  | x :: r => by
    show ins (enc x) (isort (r.map enc)) = _
    rw [isort_map h r, ins_map h]
    rfl
theorem OrdE.sorted {α : Type} {enc : α → D} {le : α → α → Bool} (o : OrdE enc le) (xs : List α) (hl : xs.length ≤ 16777216) : fSorted (.lst (xs.map enc)) = .ok ((isortT le xs).map enc) := by
  have e : sortable (xs.map enc) = true := by
    unfold sortable inLim
    rw [List.length_map, decide_eq_true hl]
    simp only [Bool.true_and, Bool.and_eq_true, List.all_map, List.all_eq_true, Bool.or_eq_true, Function.comp]
    refine ⟨⟨fun a _ => o.shp a, ?_⟩, fun a _ => ?_⟩
    · rcases o.kind with k | k
      · exact .inl fun a _ => k a
      · exact .inr fun a _ => k a
    · exact fun b _ => o.alike a b
  show chk (sortable (xs.map enc)) _ = _
  rw [e, isort_map o.le]
  rfl
/-- squares in rows' order -/
def sqLe (a b : Int × Int) : Bool := decide (a.1 < b.1 ∨ (a.1 = b.1 ∧ a.2 ≤ b.2))
theorem ord_sq : OrdE sqD sqLe := by
  refine ⟨fun a b => ?_, fun a => shp_sq 63 a, .inl fun _ => rfl, fun _ _ => by simp [sqD, pd, pds, PySem.W.alike, PySem.W.alikeAll]⟩
  show (!PySem.W.dataLt (.tuple [.int b.1, .int b.2]) (.tuple [.int a.1, .int a.2])) = _
  rw [PySem.W.dataLt_ii]
  unfold sqLe
  by_cases h : b.1 < a.1 ∨ (b.1 = a.1 ∧ b.2 < a.2)
  · rw [decide_eq_true h, decide_eq_false (by omega)]; rfl
  · rw [decide_eq_false h, decide_eq_true (by omega)]; rfl
theorem sqLe_tot (a b : Int × Int) (h : sqLe a b = false) : sqLe b a = true := by
  unfold sqLe at h ⊢
  have := of_decide_eq_false h
  exact decide_eq_true (by omega)
theorem sqLe_tr (a b c : Int × Int) (h1 : sqLe a b = true) (h2 : sqLe b c = true) : sqLe a c = true := by
  unfold sqLe at h1 h2 ⊢
  have := of_decide_eq_true h1
  have := of_decide_eq_true h2
  exact decide_eq_true (by omega)
theorem sqLe_anti (a b : Int × Int) (h1 : sqLe a b = true) (h2 : sqLe b a = true) : a = b := by
  unfold sqLe at h1 h2
  have := of_decide_eq_true h1
  have := of_decide_eq_true h2
  exact Prod.ext (by omega) (by omega)
theorem sorted_sq {xs ys : List (Int × Int)} (p : xs.Perm ys) (h : ys.Pairwise (fun a b => sqLe a b = true)) : isortT sqLe xs = ys :=
  sort_unique sqLe_anti ((isortT_perm xs).trans p) (isortT_sorted sqLe_tot sqLe_tr xs) h
/-! ### dicts -/
/-- a dict whose keys are encoded things: what it holds, at most so many -/
structure DicR {κ : Type} (ek : κ → D) (kvs : List (D × D)) (m : κ → Option D) (n : Nat) : Prop where
  keys : ∀ kv ∈ kvs, ∃ k, kv.1 = ek k
  look : ∀ k, lookD kvs (ek k) = m k
  len : kvs.length ≤ n
theorem hasD_look (kvs : List (D × D)) (k : D) : hasD kvs k = (lookD kvs k).isSome := by
  unfold hasD lookD
  induction kvs with
  | nil => rfl
  | cons kv r ih =>
    rw [List.any_cons, List.find?_cons]
    cases eqv kv.1 k with
    | true => rfl
    | false => exact ih
theorem DicR.has {κ : Type} {ek : κ → D} {kvs : List (D × D)} {m : κ → Option D} {n : Nat} (h : DicR ek kvs m n) (k : κ) : hasD kvs (ek k) = (m k).isSome := by rw [hasD_look, h.look]
theorem DicR.nil {κ : Type} {ek : κ → D} : DicR ek [] (fun _ => none) 0 := ⟨(fun _ h => nomatch h), fun _ => rfl, Nat.le_refl 0⟩
theorem lookD_map {κ : Type} {ek : κ → D} (hk : Enc ek) (k : κ) (v : D) : ∀ (kvs : List (D × D)), (∀ kv ∈ kvs, ∃ k, kv.1 = ek k) → hasD kvs (ek k) = true → ∀ j, lookD (kvs.map fun kv => if eqv kv.1 (ek k) = true then (kv.1, v) else kv) (ek j) = if eqv (ek k) (ek j) = true then some v else lookD kvs (ek j)
  | [], _, h, _ => by cases h
  | kv :: r, hkv, h, j => by
    obtain ⟨k0, e0⟩ := hkv kv List.mem_cons_self
    unfold lookD
    rw [List.map_cons, List.find?_cons, List.find?_cons]
    by_cases e1 : eqv kv.1 (ek k) = true
    · rw [if_pos e1]
      have e2 : k0 = k := (hk k0 k).mp (by rw [← e0]; exact e1)
      subst e2
      rw [e0]
      show Option.map _ (match eqv (ek k0) (ek j) with | true => some (ek k0, v) | false => _) = _
      cases q : eqv (ek k0) (ek j) with
      | true => rfl
      | false =>
        rw [if_neg Bool.false_ne_true]
        by_cases hr : hasD r (ek k0) = true
        · have := lookD_map hk k0 v r (fun kv h => hkv kv (List.mem_cons_of_mem _ h)) hr j
          rw [q, if_neg Bool.false_ne_true] at this
          unfold lookD at this
          exact this
        · have hr : hasD r (ek k0) = false := by simpa using hr
          have : (r.map fun kv => if eqv kv.1 (ek k0) = true then (kv.1, v) else kv) = r := by
            unfold hasD at hr
            rw [List.any_eq_false] at hr
            conv => rhs; rw [← List.map_id r]
            refine List.map_congr_left fun x hx => ?_
            rw [if_neg (by simpa using hr x hx)]
            rfl
          rw [this]
    · rw [if_neg e1]
      have hr : hasD r (ek k) = true := by
        unfold hasD at h ⊢
        rw [List.any_cons, Bool.or_eq_true] at h
        exact h.resolve_left e1
      have := lookD_map hk k v r (fun kv h => hkv kv (List.mem_cons_of_mem _ h)) hr j
      unfold lookD at this
      cases q : eqv kv.1 (ek j) with
      | true =>
        have ne : ¬ eqv (ek k) (ek j) = true := fun e => by
          rw [e0] at q e1
          have a1 := (hk _ _).mp q
          have a2 := (hk _ _).mp e
          subst a1 a2
          exact e1 q
        rw [if_neg ne]
      | false => exact this
theorem DicR.put {κ : Type} [DecidableEq κ] {ek : κ → D} (hk : Enc ek) {kvs : List (D × D)} {m : κ → Option D} {n : Nat} (h : DicR ek kvs m n) (k : κ) (v : D) : DicR ek (putD kvs (ek k) v) (fun j => if j = k then some v else m j) (n + 1) := by
  have he : ∀ j, (eqv (ek k) (ek j) = true) = (j = k) := fun j => by
    rw [hk]; exact propext ⟨fun e => e.symm, fun e => e.symm⟩
  unfold putD
  by_cases q : hasD kvs (ek k) = true
  · rw [if_pos q]
    refine ⟨fun kv hkv => ?_, fun j => ?_, ?_⟩
    · obtain ⟨kv0, h0, e⟩ := List.mem_map.mp hkv
      obtain ⟨k0, e0⟩ := h.keys kv0 h0
      refine ⟨k0, ?_⟩
      rw [← e, ← e0]
      split <;> rfl
    · rw [lookD_map hk k v kvs h.keys q j, h.look]
      simp only [he]
    · rw [List.length_map]; have := h.len; omega
  · rw [if_neg q]
    have q : hasD kvs (ek k) = false := by simpa using q
    refine ⟨fun kv hkv => ?_, fun j => ?_, ?_⟩
    · rcases List.mem_append.mp hkv with hkv | hkv
      · exact h.keys kv hkv
      · rw [List.mem_singleton.mp hkv]; exact ⟨k, rfl⟩
    · have := h.look j
      unfold lookD at this ⊢
      rw [List.find?_append]
      cases r : kvs.find? (fun kv => eqv kv.1 (ek j)) with
      | some kv =>
        rw [r] at this
        have ne : ¬ j = k := fun e => by
          subst e
          have := List.find?_some r
          have hm := List.mem_of_find?_eq_some r
          unfold hasD at q
          rw [List.any_eq_false] at q
          exact q kv hm this
        rw [if_neg ne, ← this]
        rfl
      | none =>
        rw [r] at this
        rw [List.find?_cons]
        by_cases e : j = k
        · subst e
          rw [if_pos rfl, (hk j j).mpr rfl]
          rfl
        · rw [if_neg e, ← this]
          have : eqv (ek k) (ek j) = false := by
            cases z : eqv (ek k) (ek j) with
            | true => exact absurd ((hk k j).mp z).symm e
            | false => rfl
          rw [this]
          rfl
    · rw [List.length_append]; have := h.len; simp only [List.length_cons, List.length_nil]; omega
theorem DicR.mono {κ : Type} {ek : κ → D} {kvs : List (D × D)} {m : κ → Option D} {n n' : Nat} (h : DicR ek kvs m n) (hl : n ≤ n') : DicR ek kvs m n' := ⟨h.keys, h.look, Nat.le_trans h.len hl⟩
theorem DicR.congr {κ : Type} {ek : κ → D} {kvs : List (D × D)} {m m' : κ → Option D} {n : Nat} (h : DicR ek kvs m n) (e : ∀ k, m k = m' k) : DicR ek kvs m' n := ⟨h.keys, fun k => by rw [h.look, e], h.len⟩
theorem DicR.idx {κ : Type} {ek : κ → D} {t : Bool} {kvs : List (D × D)} {m : κ → Option D} {n : Nat} (h : DicR ek kvs m n) {k : κ} {v : D} (hk : keyOf t (ek k) = true) (e : m k = some v) : opIdx (.dic t kvs) (ek k) = .ok v := by
  have : opIdx (.dic t kvs) (ek k) = chk (keyOf t (ek k)) (ofO (lookD kvs (ek k))) := by cases ek k <;> rfl
  rw [this, hk, h.look, e]
  rfl
theorem putSub_dic {t : Bool} {kvs : List (D × D)} {env : Env} {i : Nat} {d k : D} (hk : keyOf t k = true) (hl : kvs.length + 1 ≤ 16777216) : putSub env i d k (.own (.dic t kvs)) = .ok (env.set i (.own (.dic t (putD kvs k d)))) := by
  have : putSub env i d k (.own (.dic t kvs)) = chk (keyOf t k && inLim (kvs.length + 1)) (.ok (env.set i (.own (.dic t (putD kvs k d))))) := by cases k <;> rfl
  unfold inLim at this
  rw [this, hk, decide_eq_true hl]
  rfl
theorem key_sq (p : Int × Int) : keyOf true (sqD p) = true := by
  simp [sqD, keyOf, keyT, keyN]
/-! ### more loops -/
theorem all_true {α : Type} (xs : List α) : op .all [.lst (xs.map fun _ => D.bl true)] = .ok (.bl true) := by
  have := O_all (xs.map fun _ => true)
  rw [List.map_map] at this
  rw [show (xs.map fun _ => D.bl true) = xs.map (D.bl ∘ fun _ => true) from rfl, this]
  simp
theorem for_rng {body : Env → Out (Fl × Env)} {tg : Tg} (I : Nat → Env → Prop) (n : Nat) (h : ∀ i env, i < n → I i env → ∃ e1, bindT tg (.int (i : Int)) env = .ok e1 ∧ ∃ e2, body e1 = .ok (.nx, e2) ∧ I (i + 1) e2) {env : Env} (h0 : I 0 env) :
    ∃ e2, forL body tg ((List.range n).map fun (k : Nat) => D.int (k : Int)) env = .ok (.nx, e2) ∧ I n e2 := by
  obtain ⟨e2, h1, h2⟩ := for_go (body := body) (tg := tg) (fun k : Nat => D.int (k : Int)) (fun p env => I p.length env) (List.range n) (fun p a q env e hi => by
    have hl : p.length < n := by have := congrArg List.length e; simp at this; omega
    have ha : a = p.length := by
      have := congrArg (fun l => l[p.length]?) e
      simp [hl] at this
      exact this.symm
    subst ha
    obtain ⟨e1, h1, e2, h2, h3⟩ := h _ env hl hi
    exact ⟨e1, h1, e2, h2, by rw [List.length_append]; exact h3⟩) [] (List.range n) env rfl h0
  refine ⟨e2, h1, ?_⟩
  have : (List.range n).length = n := List.length_range
  rw [this] at h2
  exact h2
/-- a walk by places that may end with an answer -/
theorem for_rng_ret {body : Env → Out (Fl × Env)} {tg : Tg} (I : Nat → Env → Prop) (stop : Nat → Option D) (n : Nat) (h : ∀ i env, i < n → I i env → ∃ e1, bindT tg (.int (i : Int)) env = .ok e1 ∧ ∃ e2, match stop i with
      | none => body e1 = .ok (.nx, e2) ∧ I (i + 1) e2
      | some d => body e1 = .ok (.rt d, e2)) {env : Env} (h0 : I 0 env) :
    ∃ e2, match (List.range n).findSome? stop with
      | none => forL body tg ((List.range n).map fun (k : Nat) => D.int (k : Int)) env = .ok (.nx, e2) ∧ I n e2
      | some d => forL body tg ((List.range n).map fun (k : Nat) => D.int (k : Int)) env = .ok (.rt d, e2) := by
  obtain ⟨e2, h1⟩ := for_ret (body := body) (tg := tg) (fun k : Nat => D.int (k : Int)) (fun p env => I p.length env) stop (List.range n) (fun p a q env e _ hi => by
    have hl : p.length < n := by have := congrArg List.length e; simp at this; omega
    have ha : a = p.length := by
      have := congrArg (fun l => l[p.length]?) e
      simp [hl] at this
      exact this.symm
    subst ha
    obtain ⟨e1, h1, e2, h2⟩ := h _ env hl hi
    refine ⟨e1, h1, e2, ?_⟩
    rw [List.length_append]
    exact h2) [] (List.range n) env rfl (fun _ h => nomatch h) h0
  refine ⟨e2, ?_⟩
  have : (List.range n).length = n := List.length_range
  rw [this] at h1
  exact h1
/-! ### tables -/
def grL {α : Type} (h w : Nat) (g : Nat → Nat → α) : List (List α) := (List.range h).map fun a => (List.range w).map fun b => g a b
theorem grL_congr {α : Type} {h w : Nat} {g g' : Nat → Nat → α} (e : ∀ a b, a < h → b < w → g a b = g' a b) : grL h w g = grL h w g' :=
  List.map_congr_left fun a ha => List.map_congr_left fun b hb => e a b (List.mem_range.mp ha) (List.mem_range.mp hb)
theorem map_range_set {α : Type} {n i : Nat} {g : Nat → α} {v : α} : ((List.range n).map g).set i v = (List.range n).map fun j => if j = i then v else g j := by
  apply List.ext_getElem
  · simp
  · intro j h1 h2
    simp only [List.length_set, List.length_map, List.length_range] at h1
    rw [List.getElem_set]
    simp only [List.getElem_map, List.getElem_range]
    by_cases e : i = j
    · rw [if_pos e, if_pos e.symm]
    · rw [if_neg e, if_neg (Ne.symm e)]
theorem putSub2_gr {env : Env} {i h w a b : Nat} {v : D} {g : Nat → Nat → D} (ha : a < h) (hb : b < w) : putSub2 env i v (.int (a : Int)) (.int (b : Int)) (.own (.lls (grL h w g))) = .ok (env.set i (.own (.lls (grL h w fun x y => if x = a ∧ y = b then v else g x y)))) := by
  have e1 : ixN (grL h w g).length (a : Int) = some a := by rw [show (grL h w g).length = h by simp [grL]]; exact ix_nat ha
  have e2 : (grL h w g)[a]? = some ((List.range w).map (g a)) := by simp [grL, ha]
  have e3 : ixN ((List.range w).map (g a)).length (b : Int) = some b := by rw [show ((List.range w).map (g a)).length = w by simp]; exact ix_nat hb
  show ((ofO (ixN (grL h w g).length (a : Int))).bind fun n => (ofO (grL h w g)[n]?).bind fun xs => (ofO (ixN xs.length (b : Int))).bind fun q => .ok (env.set i (.own (.lls ((grL h w g).set n (xs.set q v)))))) = _
  rw [e1]
  show ((ofO (grL h w g)[a]?).bind fun xs => (ofO (ixN xs.length (b : Int))).bind fun q => .ok (env.set i (.own (.lls ((grL h w g).set a (xs.set q v)))))) = _
  rw [e2]
  show ((ofO (ixN ((List.range w).map (g a)).length (b : Int))).bind fun q => Out.ok (env.set i (.own (.lls ((grL h w g).set a (((List.range w).map (g a)).set q v)))))) = _
  rw [e3]
  show Out.ok (env.set i (.own (.lls ((grL h w g).set a (((List.range w).map (g a)).set b v))))) = _
  congr 4
  unfold grL
  rw [map_range_set, map_range_set]
  refine List.map_congr_left fun x hx => ?_
  by_cases e : x = a
  · subst e
    rw [if_pos rfl]
    refine List.map_congr_left fun y hy => ?_
    by_cases e : y = b <;> simp [e]
  · rw [if_neg e]
    refine List.map_congr_left fun y hy => ?_
    simp [e]
theorem joinL_nil : ∀ ys : List (List Nat), TL.joinL [] ys = ys.flatten
  | [] => rfl
  | [p] => by simp [TL.joinL]
  | p :: q :: r => by
    have := joinL_nil (q :: r)
    rw [TL.joinL, this]
    simp
/-- "".join of single signs -/
theorem join_signs {α : Type} (xs : List α) (g : α → Nat) (hl : xs.length ≤ 16777216) : opJoin (.str []) (.lst (xs.map fun a => .str [g a])) = .ok (.str (xs.map g)) := by
  show (ofO (strsOf (xs.map fun a => D.str [g a]))).bind (joinOk []) = _
  have : (xs.map fun a => D.str [g a]) = (xs.map fun a => [g a]).map D.str := by rw [List.map_map]; rfl
  rw [this, O_strs]
  show joinOk [] _ = _
  unfold joinOk inLim
  have e1 : ((xs.map fun a => [g a]).map (·.length)).sum + (xs.map fun a => [g a]).length * ([] : List Nat).length = xs.length := by
    clear hl this
    induction xs with
    | nil => rfl
    | cons a r ih => simp at ih ⊢; omega
  have e2 : (xs.map fun a => [g a]).flatten = xs.map g := by
    clear hl this e1
    induction xs with
    | nil => rfl
    | cons a r ih => simp [ih]
  rw [e1, decide_eq_true hl, joinL_nil, e2]
  rfl
end RE
end

section
set_option linter.all false
set_option maxRecDepth 100000
set_option maxHeartbeats 4000000

namespace Lw
open PySem PySem.Spec PyProof.Rows L2
def top (i : Nat) : Stmt := PySem.Challenge.pw_floorslaid_k75_whole_turn_words.main.body.getD i (.Pass ⟨0, 0, 0, 0⟩)
def bl : List Str := [Str.ofString "len", Str.ofString "abs", Str.ofString "all", Str.ofString "int", Str.ofString "tuple", Str.ofString "isinstance", Str.ofString "list", Str.ofString "sorted", Str.ofString "range", Str.ofString "enumerate", Str.ofString "zip", Str.ofString "set", Str.ofString "bool", Str.ofString "str"]
def cs : List (Str × RE.D) := [(Str.ofString "MOST", .int 12), (Str.ofString "SQUARE", .str [46]), (Str.ofString "HOLE", .str [35]), (Str.ofString "WORDS", .tup [.str [98, 97, 99, 107], .str [102, 108, 97, 116], .str [104, 97, 108, 102], .str [113, 117, 97, 114, 116, 101, 114], .str [115, 108, 97, 110, 116], .str [115, 116, 97, 121], .str [116, 104, 114, 101, 101, 113, 117, 97, 114, 116, 101, 114], .str [117, 112, 114, 105, 103, 104, 116]]), (Str.ofString "EXCHANGED", .tup [.str [98, 97, 99, 107], .str [113, 117, 97, 114, 116, 101, 114], .str [115, 108, 97, 110, 116], .str [116, 104, 114, 101, 101, 113, 117, 97, 114, 116, 101, 114]]), (Str.ofString "DOWN", .tup [.str [98, 97, 99, 107], .str [104, 97, 108, 102], .str [113, 117, 97, 114, 116, 101, 114], .str [117, 112, 114, 105, 103, 104, 116]]), (Str.ofString "RIGHT", .tup [.str [98, 97, 99, 107], .str [102, 108, 97, 116], .str [104, 97, 108, 102], .str [116, 104, 114, 101, 101, 113, 117, 97, 114, 116, 101, 114]])]
def fs : List (Str × Nat × Nat × Nat) := [(Str.ofString "is_integer", 0, 0, 1), (Str.ofString "is_whole", 0, 1, 3), (Str.ofString "is_tuple_of", 0, 2, 3), (Str.ofString "is_word", 0, 3, 4), (Str.ofString "fits_floor", 0, 4, 1), (Str.ofString "need_floor", 0, 5, 1), (Str.ofString "is_place", 0, 6, 1), (Str.ofString "squares_in", 0, 7, 1), (Str.ofString "is_square", 0, 8, 2), (Str.ofString "need_square", 0, 9, 2), (Str.ofString "turned_in", 0, 10, 1), (Str.ofString "mirrored_in", 0, 11, 1), (Str.ofString "squares_of", 0, 12, 1), (Str.ofString "floor_turned", 0, 13, 1), (Str.ofString "floor_mirrored", 0, 14, 1), (Str.ofString "goes_to", 0, 15, 4), (Str.ofString "sides_by", 0, 16, 3), (Str.ofString "floor_by", 0, 17, 2), (Str.ofString "own_words_in", 0, 18, 1), (Str.ofString "behind_in", 0, 19, 2), (Str.ofString "against_in", 0, 20, 1), (Str.ofString "need_turn_word", 0, 21, 1), (Str.ofString "floor_by_word", 0, 22, 2), (Str.ofString "square_by_word", 0, 23, 3), (Str.ofString "own_words", 0, 24, 1), (Str.ofString "word_behind", 0, 25, 2), (Str.ofString "word_against", 0, 26, 1), (Str.ofString "_law_cup", 2, 27, 1), (Str.ofString "_law_roll", 1, 28, 2), (Str.ofString "_law_sort", 0, 29, 1), (Str.ofString "_law_like", 0, 30, 2), (Str.ofString "_law_floor", 1, 31, 4), (Str.ofString "_law_squares", 0, 32, 1), (Str.ofString "_law_words", 0, 33, 0), (Str.ofString "_law_goes", 0, 34, 4), (Str.ofString "_law_turned_floor", 0, 35, 2), (Str.ofString "_law_own_words", 0, 36, 1), (Str.ofString "_law_even_floor", 1, 37, 2), (Str.ofString "_law_right", 0, 38, 1), (Str.ofString "_law_behind_right", 0, 39, 1), (Str.ofString "law", 0, 40, 1)]
def n0 : List Str := [Str.ofString "value"]
abbrev s0 : Stmt := top 9
def c0 : RE.Ct := ⟨n0, defScope s0, none, bl, cs, fs, [], [], [], []⟩
def f0 : Option RE.Fn := RE.cDef 40 c0 0 1 (defBody s0)
def t0 : RE.Fn := f0.getD ⟨0, 0, false, none, .nil⟩
theorem ok0 : f0 = some t0 := RE.some_getD (by decide +kernel)
theorem sc0 : FnScope n0 [Str.ofString "value"] (defScope s0) := ⟨rfl, rfl, rfl, by decide +kernel, rfl, by decide +kernel, by decide +kernel⟩
def n1 : List Str := [Str.ofString "value", Str.ofString "low", Str.ofString "high"]
abbrev s1 : Stmt := top 10
def c1 : RE.Ct := ⟨n1, defScope s1, none, bl, cs, fs, [], [], [], []⟩
def f1 : Option RE.Fn := RE.cDef 40 c1 0 3 (defBody s1)
def t1 : RE.Fn := f1.getD ⟨0, 0, false, none, .nil⟩
theorem ok1 : f1 = some t1 := RE.some_getD (by decide +kernel)
theorem sc1 : FnScope n1 [Str.ofString "value", Str.ofString "low", Str.ofString "high"] (defScope s1) := ⟨rfl, rfl, rfl, by decide +kernel, rfl, by decide +kernel, by decide +kernel⟩
def n2 : List Str := [Str.ofString "value", Str.ofString "low", Str.ofString "high"]
abbrev s2 : Stmt := top 11
def c2 : RE.Ct := ⟨n2, defScope s2, none, bl, cs, fs, [], [], [], []⟩
def f2 : Option RE.Fn := RE.cDef 40 c2 0 3 (defBody s2)
def t2 : RE.Fn := f2.getD ⟨0, 0, false, none, .nil⟩
theorem ok2 : f2 = some t2 := RE.some_getD (by decide +kernel)
theorem sc2 : FnScope n2 [Str.ofString "value", Str.ofString "low", Str.ofString "high"] (defScope s2) := ⟨rfl, rfl, rfl, by decide +kernel, rfl, by decide +kernel, by decide +kernel⟩
def n3 : List Str := [Str.ofString "value", Str.ofString "signs", Str.ofString "low", Str.ofString "high", Str.ofString "sign"]
abbrev s3 : Stmt := top 12
def c3 : RE.Ct := ⟨n3, defScope s3, none, bl, cs, fs, [], [], [], []⟩
def f3 : Option RE.Fn := RE.cDef 40 c3 0 4 (defBody s3)
def t3 : RE.Fn := f3.getD ⟨0, 0, false, none, .nil⟩
theorem ok3 : f3 = some t3 := RE.some_getD (by decide +kernel)
theorem sc3 : FnScope n3 [Str.ofString "value", Str.ofString "signs", Str.ofString "low", Str.ofString "high"] (defScope s3) := ⟨rfl, rfl, rfl, by decide +kernel, rfl, by decide +kernel, by decide +kernel⟩
def n4 : List Str := [Str.ofString "value", Str.ofString "row"]
abbrev s4 : Stmt := top 13
def c4 : RE.Ct := ⟨n4, defScope s4, none, bl, cs, fs, [], [], [], []⟩
def f4 : Option RE.Fn := RE.cDef 40 c4 0 1 (defBody s4)
def t4 : RE.Fn := f4.getD ⟨0, 0, false, none, .nil⟩
theorem ok4 : f4 = some t4 := RE.some_getD (by decide +kernel)
theorem sc4 : FnScope n4 [Str.ofString "value"] (defScope s4) := ⟨rfl, rfl, rfl, by decide +kernel, rfl, by decide +kernel, by decide +kernel⟩
def n5 : List Str := [Str.ofString "value"]
abbrev s5 : Stmt := top 14
def c5 : RE.Ct := ⟨n5, defScope s5, none, bl, cs, fs, [], [], [], []⟩
def f5 : Option RE.Fn := RE.cDef 40 c5 0 1 (defBody s5)
def t5 : RE.Fn := f5.getD ⟨0, 0, false, none, .nil⟩
theorem ok5 : f5 = some t5 := RE.some_getD (by decide +kernel)
theorem sc5 : FnScope n5 [Str.ofString "value"] (defScope s5) := ⟨rfl, rfl, rfl, by decide +kernel, rfl, by decide +kernel, by decide +kernel⟩
def n6 : List Str := [Str.ofString "value"]
abbrev s6 : Stmt := top 15
def c6 : RE.Ct := ⟨n6, defScope s6, none, bl, cs, fs, [], [], [], []⟩
def f6 : Option RE.Fn := RE.cDef 40 c6 0 1 (defBody s6)
def t6 : RE.Fn := f6.getD ⟨0, 0, false, none, .nil⟩
theorem ok6 : f6 = some t6 := RE.some_getD (by decide +kernel)
theorem sc6 : FnScope n6 [Str.ofString "value"] (defScope s6) := ⟨rfl, rfl, rfl, by decide +kernel, rfl, by decide +kernel, by decide +kernel⟩
def n7 : List Str := [Str.ofString "floor", Str.ofString "found", Str.ofString "row", Str.ofString "line", Str.ofString "column", Str.ofString "sign"]
abbrev s7 : Stmt := top 16
def c7 : RE.Ct := ⟨n7, defScope s7, none, bl, cs, fs, [], [], [], []⟩
def f7 : Option RE.Fn := RE.cDef 40 c7 0 1 (defBody s7)
def t7 : RE.Fn := f7.getD ⟨0, 0, false, none, .nil⟩
theorem ok7 : f7 = some t7 := RE.some_getD (by decide +kernel)
theorem sc7 : FnScope n7 [Str.ofString "floor"] (defScope s7) := ⟨rfl, rfl, rfl, by decide +kernel, rfl, by decide +kernel, by decide +kernel⟩
def n8 : List Str := [Str.ofString "floor", Str.ofString "value"]
abbrev s8 : Stmt := top 17
def c8 : RE.Ct := ⟨n8, defScope s8, none, bl, cs, fs, [], [], [], []⟩
def f8 : Option RE.Fn := RE.cDef 40 c8 0 2 (defBody s8)
def t8 : RE.Fn := f8.getD ⟨0, 0, false, none, .nil⟩
theorem ok8 : f8 = some t8 := RE.some_getD (by decide +kernel)
theorem sc8 : FnScope n8 [Str.ofString "floor", Str.ofString "value"] (defScope s8) := ⟨rfl, rfl, rfl, by decide +kernel, rfl, by decide +kernel, by decide +kernel⟩
def n9 : List Str := [Str.ofString "floor", Str.ofString "value"]
abbrev s9 : Stmt := top 18
def c9 : RE.Ct := ⟨n9, defScope s9, none, bl, cs, fs, [], [], [], []⟩
def f9 : Option RE.Fn := RE.cDef 40 c9 0 2 (defBody s9)
def t9 : RE.Fn := f9.getD ⟨0, 0, false, none, .nil⟩
theorem ok9 : f9 = some t9 := RE.some_getD (by decide +kernel)
theorem sc9 : FnScope n9 [Str.ofString "floor", Str.ofString "value"] (defScope s9) := ⟨rfl, rfl, rfl, by decide +kernel, rfl, by decide +kernel, by decide +kernel⟩
def n10 : List Str := [Str.ofString "floor", Str.ofString "column", Str.ofString "row"]
abbrev s10 : Stmt := top 19
def c10 : RE.Ct := ⟨n10, defScope s10, none, bl, cs, fs, [], [], [], []⟩
def f10 : Option RE.Fn := RE.cDef 40 c10 0 1 (defBody s10)
def t10 : RE.Fn := f10.getD ⟨0, 0, false, none, .nil⟩
theorem ok10 : f10 = some t10 := RE.some_getD (by decide +kernel)
theorem sc10 : FnScope n10 [Str.ofString "floor"] (defScope s10) := ⟨rfl, rfl, rfl, by decide +kernel, rfl, by decide +kernel, by decide +kernel⟩
def n11 : List Str := [Str.ofString "floor", Str.ofString "row"]
abbrev s11 : Stmt := top 20
def c11 : RE.Ct := ⟨n11, defScope s11, none, bl, cs, fs, [], [], [], []⟩
def f11 : Option RE.Fn := RE.cDef 40 c11 0 1 (defBody s11)
def t11 : RE.Fn := f11.getD ⟨0, 0, false, none, .nil⟩
theorem ok11 : f11 = some t11 := RE.some_getD (by decide +kernel)
theorem sc11 : FnScope n11 [Str.ofString "floor"] (defScope s11) := ⟨rfl, rfl, rfl, by decide +kernel, rfl, by decide +kernel, by decide +kernel⟩
def n12 : List Str := [Str.ofString "floor"]
abbrev s12 : Stmt := top 21
def c12 : RE.Ct := ⟨n12, defScope s12, none, bl, cs, fs, [], [], [], []⟩
def f12 : Option RE.Fn := RE.cDef 40 c12 0 1 (defBody s12)
def t12 : RE.Fn := f12.getD ⟨0, 0, false, none, .nil⟩
theorem ok12 : f12 = some t12 := RE.some_getD (by decide +kernel)
theorem sc12 : FnScope n12 [Str.ofString "floor"] (defScope s12) := ⟨rfl, rfl, rfl, by decide +kernel, rfl, by decide +kernel, by decide +kernel⟩
def n13 : List Str := [Str.ofString "floor"]
abbrev s13 : Stmt := top 22
def c13 : RE.Ct := ⟨n13, defScope s13, none, bl, cs, fs, [], [], [], []⟩
def f13 : Option RE.Fn := RE.cDef 40 c13 0 1 (defBody s13)
def t13 : RE.Fn := f13.getD ⟨0, 0, false, none, .nil⟩
theorem ok13 : f13 = some t13 := RE.some_getD (by decide +kernel)
theorem sc13 : FnScope n13 [Str.ofString "floor"] (defScope s13) := ⟨rfl, rfl, rfl, by decide +kernel, rfl, by decide +kernel, by decide +kernel⟩
def n14 : List Str := [Str.ofString "floor"]
abbrev s14 : Stmt := top 23
def c14 : RE.Ct := ⟨n14, defScope s14, none, bl, cs, fs, [], [], [], []⟩
def f14 : Option RE.Fn := RE.cDef 40 c14 0 1 (defBody s14)
def t14 : RE.Fn := f14.getD ⟨0, 0, false, none, .nil⟩
theorem ok14 : f14 = some t14 := RE.some_getD (by decide +kernel)
theorem sc14 : FnScope n14 [Str.ofString "floor"] (defScope s14) := ⟨rfl, rfl, rfl, by decide +kernel, rfl, by decide +kernel, by decide +kernel⟩
def n15 : List Str := [Str.ofString "rows", Str.ofString "columns", Str.ofString "word", Str.ofString "place", Str.ofString "row", Str.ofString "column"]
abbrev s15 : Stmt := top 29
def c15 : RE.Ct := ⟨n15, defScope s15, none, bl, cs, fs, [], [], [], []⟩
def f15 : Option RE.Fn := RE.cDef 40 c15 0 4 (defBody s15)
def t15 : RE.Fn := f15.getD ⟨0, 0, false, none, .nil⟩
theorem ok15 : f15 = some t15 := RE.some_getD (by decide +kernel)
theorem sc15 : FnScope n15 [Str.ofString "rows", Str.ofString "columns", Str.ofString "word", Str.ofString "place"] (defScope s15) := ⟨rfl, rfl, rfl, by decide +kernel, rfl, by decide +kernel, by decide +kernel⟩
def n16 : List Str := [Str.ofString "rows", Str.ofString "columns", Str.ofString "word"]
abbrev s16 : Stmt := top 30
def c16 : RE.Ct := ⟨n16, defScope s16, none, bl, cs, fs, [], [], [], []⟩
def f16 : Option RE.Fn := RE.cDef 40 c16 0 3 (defBody s16)
def t16 : RE.Fn := f16.getD ⟨0, 0, false, none, .nil⟩
theorem ok16 : f16 = some t16 := RE.some_getD (by decide +kernel)
theorem sc16 : FnScope n16 [Str.ofString "rows", Str.ofString "columns", Str.ofString "word"] (defScope s16) := ⟨rfl, rfl, rfl, by decide +kernel, rfl, by decide +kernel, by decide +kernel⟩
def n17 : List Str := [Str.ofString "floor", Str.ofString "word", Str.ofString "table", Str.ofString "row", Str.ofString "rows", Str.ofString "columns", Str.ofString "high", Str.ofString "wide", Str.ofString "column", Str.ofString "down", Str.ofString "right", Str.ofString "line"]
abbrev s17 : Stmt := top 31
def c17 : RE.Ct := ⟨n17, defScope s17, none, bl, cs, fs, [], [2], [2], []⟩
def f17 : Option RE.Fn := RE.cDef 40 c17 0 2 (defBody s17)
def t17 : RE.Fn := f17.getD ⟨0, 0, false, none, .nil⟩
theorem ok17 : f17 = some t17 := RE.some_getD (by decide +kernel)
theorem sc17 : FnScope n17 [Str.ofString "floor", Str.ofString "word"] (defScope s17) := ⟨rfl, rfl, rfl, by decide +kernel, rfl, by decide +kernel, by decide +kernel⟩
def n18 : List Str := [Str.ofString "floor", Str.ofString "word"]
abbrev s18 : Stmt := top 32
def c18 : RE.Ct := ⟨n18, defScope s18, none, bl, cs, fs, [], [], [], []⟩
def f18 : Option RE.Fn := RE.cDef 40 c18 0 1 (defBody s18)
def t18 : RE.Fn := f18.getD ⟨0, 0, false, none, .nil⟩
theorem ok18 : f18 = some t18 := RE.some_getD (by decide +kernel)
theorem sc18 : FnScope n18 [Str.ofString "floor"] (defScope s18) := ⟨rfl, rfl, rfl, by decide +kernel, rfl, by decide +kernel, by decide +kernel⟩
def n19 : List Str := [Str.ofString "word", Str.ofString "other", Str.ofString "due", Str.ofString "sides", Str.ofString "own", Str.ofString "high", Str.ofString "wide", Str.ofString "place"]
abbrev s19 : Stmt := top 33
def c19 : RE.Ct := ⟨n19, defScope s19, none, bl, cs, fs, [], [], [], []⟩
def f19 : Option RE.Fn := RE.cDef 40 c19 0 2 (defBody s19)
def t19 : RE.Fn := f19.getD ⟨0, 0, false, none, .nil⟩
theorem ok19 : f19 = some t19 := RE.some_getD (by decide +kernel)
theorem sc19 : FnScope n19 [Str.ofString "word", Str.ofString "other"] (defScope s19) := ⟨rfl, rfl, rfl, by decide +kernel, rfl, by decide +kernel, by decide +kernel⟩
def n20 : List Str := [Str.ofString "word"]
abbrev s20 : Stmt := top 34
def c20 : RE.Ct := ⟨n20, defScope s20, none, bl, cs, fs, [], [], [], []⟩
def f20 : Option RE.Fn := RE.cDef 40 c20 0 1 (defBody s20)
def t20 : RE.Fn := f20.getD ⟨0, 0, false, none, .nil⟩
theorem ok20 : f20 = some t20 := RE.some_getD (by decide +kernel)
theorem sc20 : FnScope n20 [Str.ofString "word"] (defScope s20) := ⟨rfl, rfl, rfl, by decide +kernel, rfl, by decide +kernel, by decide +kernel⟩
def n21 : List Str := [Str.ofString "value"]
abbrev s21 : Stmt := top 35
def c21 : RE.Ct := ⟨n21, defScope s21, none, bl, cs, fs, [], [], [], []⟩
def f21 : Option RE.Fn := RE.cDef 40 c21 0 1 (defBody s21)
def t21 : RE.Fn := f21.getD ⟨0, 0, false, none, .nil⟩
theorem ok21 : f21 = some t21 := RE.some_getD (by decide +kernel)
theorem sc21 : FnScope n21 [Str.ofString "value"] (defScope s21) := ⟨rfl, rfl, rfl, by decide +kernel, rfl, by decide +kernel, by decide +kernel⟩
def n22 : List Str := [Str.ofString "floor", Str.ofString "word"]
abbrev s22 : Stmt := top 36
def c22 : RE.Ct := ⟨n22, defScope s22, none, bl, cs, fs, [], [], [], []⟩
def f22 : Option RE.Fn := RE.cDef 40 c22 0 2 (defBody s22)
def t22 : RE.Fn := f22.getD ⟨0, 0, false, none, .nil⟩
theorem ok22 : f22 = some t22 := RE.some_getD (by decide +kernel)
theorem sc22 : FnScope n22 [Str.ofString "floor", Str.ofString "word"] (defScope s22) := ⟨rfl, rfl, rfl, by decide +kernel, rfl, by decide +kernel, by decide +kernel⟩
def n23 : List Str := [Str.ofString "floor", Str.ofString "word", Str.ofString "square"]
abbrev s23 : Stmt := top 37
def c23 : RE.Ct := ⟨n23, defScope s23, none, bl, cs, fs, [], [], [], []⟩
def f23 : Option RE.Fn := RE.cDef 40 c23 0 3 (defBody s23)
def t23 : RE.Fn := f23.getD ⟨0, 0, false, none, .nil⟩
theorem ok23 : f23 = some t23 := RE.some_getD (by decide +kernel)
theorem sc23 : FnScope n23 [Str.ofString "floor", Str.ofString "word", Str.ofString "square"] (defScope s23) := ⟨rfl, rfl, rfl, by decide +kernel, rfl, by decide +kernel, by decide +kernel⟩
def n24 : List Str := [Str.ofString "floor"]
abbrev s24 : Stmt := top 38
def c24 : RE.Ct := ⟨n24, defScope s24, none, bl, cs, fs, [], [], [], []⟩
def f24 : Option RE.Fn := RE.cDef 40 c24 0 1 (defBody s24)
def t24 : RE.Fn := f24.getD ⟨0, 0, false, none, .nil⟩
theorem ok24 : f24 = some t24 := RE.some_getD (by decide +kernel)
theorem sc24 : FnScope n24 [Str.ofString "floor"] (defScope s24) := ⟨rfl, rfl, rfl, by decide +kernel, rfl, by decide +kernel, by decide +kernel⟩
def n25 : List Str := [Str.ofString "word", Str.ofString "other"]
abbrev s25 : Stmt := top 39
def c25 : RE.Ct := ⟨n25, defScope s25, none, bl, cs, fs, [], [], [], []⟩
def f25 : Option RE.Fn := RE.cDef 40 c25 0 2 (defBody s25)
def t25 : RE.Fn := f25.getD ⟨0, 0, false, none, .nil⟩
theorem ok25 : f25 = some t25 := RE.some_getD (by decide +kernel)
theorem sc25 : FnScope n25 [Str.ofString "word", Str.ofString "other"] (defScope s25) := ⟨rfl, rfl, rfl, by decide +kernel, rfl, by decide +kernel, by decide +kernel⟩
def n26 : List Str := [Str.ofString "word"]
abbrev s26 : Stmt := top 40
def c26 : RE.Ct := ⟨n26, defScope s26, none, bl, cs, fs, [], [], [], []⟩
def f26 : Option RE.Fn := RE.cDef 40 c26 0 1 (defBody s26)
def t26 : RE.Fn := f26.getD ⟨0, 0, false, none, .nil⟩
theorem ok26 : f26 = some t26 := RE.some_getD (by decide +kernel)
theorem sc26 : FnScope n26 [Str.ofString "word"] (defScope s26) := ⟨rfl, rfl, rfl, by decide +kernel, rfl, by decide +kernel, by decide +kernel⟩
def n27 : List Str := [Str.ofString "script", Str.ofString "cell"]
abbrev s27 : Stmt := top 42
def c27 : RE.Ct := ⟨n27, defScope s27, none, bl, cs, fs, [], [], [], []⟩
def f27 : Option RE.Fn := RE.cDef 40 c27 2 1 (defBody s27)
def t27 : RE.Fn := f27.getD ⟨0, 0, false, none, .nil⟩
theorem ok27 : f27 = some t27 := RE.some_getD (by decide +kernel)
theorem sc27 : FnScope n27 [Str.ofString "script"] (defScope s27) := ⟨rfl, rfl, rfl, by decide +kernel, rfl, by decide +kernel, by decide +kernel⟩
def n28 : List Str := [Str.ofString "cup", Str.ofString "many", Str.ofString "deep", Str.ofString "found"]
abbrev s28 : Stmt := top 43
def c28 : RE.Ct := ⟨n28, defScope s28, none, bl, cs, fs, [], [0], [], [0]⟩
def f28 : Option RE.Fn := RE.cDef 40 c28 1 2 (defBody s28)
def t28 : RE.Fn := f28.getD ⟨0, 0, false, none, .nil⟩
theorem ok28 : f28 = some t28 := RE.some_getD (by decide +kernel)
theorem sc28 : FnScope n28 [Str.ofString "cup", Str.ofString "many"] (defScope s28) := ⟨rfl, rfl, rfl, by decide +kernel, rfl, by decide +kernel, by decide +kernel⟩
def n29 : List Str := [Str.ofString "value"]
abbrev s29 : Stmt := top 44
def c29 : RE.Ct := ⟨n29, defScope s29, none, bl, cs, fs, [], [], [], []⟩
def f29 : Option RE.Fn := RE.cDef 40 c29 0 1 (defBody s29)
def t29 : RE.Fn := f29.getD ⟨0, 0, false, none, .nil⟩
theorem ok29 : f29 = some t29 := RE.some_getD (by decide +kernel)
theorem sc29 : FnScope n29 [Str.ofString "value"] (defScope s29) := ⟨rfl, rfl, rfl, by decide +kernel, rfl, by decide +kernel, by decide +kernel⟩
def n30 : List Str := [Str.ofString "one", Str.ofString "other", Str.ofString "sort", Str.ofString "first", Str.ofString "second"]
abbrev s30 : Stmt := top 45
def c30 : RE.Ct := ⟨n30, defScope s30, none, bl, cs, fs, [], [], [], []⟩
def f30 : Option RE.Fn := RE.cDef 40 c30 0 2 (defBody s30)
def t30 : RE.Fn := f30.getD ⟨0, 0, false, none, .nil⟩
theorem ok30 : f30 = some t30 := RE.some_getD (by decide +kernel)
theorem sc30 : FnScope n30 [Str.ofString "one", Str.ofString "other"] (defScope s30) := ⟨rfl, rfl, rfl, by decide +kernel, rfl, by decide +kernel, by decide +kernel⟩
def n31 : List Str := [Str.ofString "cup", Str.ofString "rows", Str.ofString "columns", Str.ofString "holes", Str.ofString "row", Str.ofString "turn", Str.ofString "high", Str.ofString "wide", Str.ofString "table", Str.ofString "way", Str.ofString "column", Str.ofString "line"]
abbrev s31 : Stmt := top 46
def c31 : RE.Ct := ⟨n31, defScope s31, none, bl, cs, fs, [], [0, 8], [8], [0]⟩
def f31 : Option RE.Fn := RE.cDef 40 c31 1 4 (defBody s31)
def t31 : RE.Fn := f31.getD ⟨0, 0, false, none, .nil⟩
theorem ok31 : f31 = some t31 := RE.some_getD (by decide +kernel)
theorem sc31 : FnScope n31 [Str.ofString "cup", Str.ofString "rows", Str.ofString "columns", Str.ofString "holes"] (defScope s31) := ⟨rfl, rfl, rfl, by decide +kernel, rfl, by decide +kernel, by decide +kernel⟩
def n32 : List Str := [Str.ofString "floor", Str.ofString "found", Str.ofString "row", Str.ofString "line", Str.ofString "column"]
abbrev s32 : Stmt := top 47
def c32 : RE.Ct := ⟨n32, defScope s32, none, bl, cs, fs, [], [], [], []⟩
def f32 : Option RE.Fn := RE.cDef 40 c32 0 1 (defBody s32)
def t32 : RE.Fn := f32.getD ⟨0, 0, false, none, .nil⟩
theorem ok32 : f32 = some t32 := RE.some_getD (by decide +kernel)
theorem sc32 : FnScope n32 [Str.ofString "floor"] (defScope s32) := ⟨rfl, rfl, rfl, by decide +kernel, rfl, by decide +kernel, by decide +kernel⟩
def n33 : List Str := []
abbrev s33 : Stmt := top 48
def c33 : RE.Ct := ⟨n33, defScope s33, none, bl, cs, fs, [], [], [], []⟩
def f33 : Option RE.Fn := RE.cDef 40 c33 0 0 (defBody s33)
def t33 : RE.Fn := f33.getD ⟨0, 0, false, none, .nil⟩
theorem ok33 : f33 = some t33 := RE.some_getD (by decide +kernel)
theorem sc33 : FnScope n33 [] (defScope s33) := ⟨rfl, rfl, rfl, by decide +kernel, rfl, by decide +kernel, by decide +kernel⟩
def n34 : List Str := [Str.ofString "rows", Str.ofString "columns", Str.ofString "word", Str.ofString "place", Str.ofString "mirrored", Str.ofString "quarters", Str.ofString "turn", Str.ofString "row", Str.ofString "column", Str.ofString "high", Str.ofString "wide"]
abbrev s34 : Stmt := top 49
def c34 : RE.Ct := ⟨n34, defScope s34, none, bl, cs, fs, [], [], [], []⟩
def f34 : Option RE.Fn := RE.cDef 40 c34 0 4 (defBody s34)
def t34 : RE.Fn := f34.getD ⟨0, 0, false, none, .nil⟩
theorem ok34 : f34 = some t34 := RE.some_getD (by decide +kernel)
theorem sc34 : FnScope n34 [Str.ofString "rows", Str.ofString "columns", Str.ofString "word", Str.ofString "place"] (defScope s34) := ⟨rfl, rfl, rfl, by decide +kernel, rfl, by decide +kernel, by decide +kernel⟩
def n35 : List Str := [Str.ofString "floor", Str.ofString "word", Str.ofString "row", Str.ofString "rows", Str.ofString "columns", Str.ofString "held", Str.ofString "column", Str.ofString "high", Str.ofString "wide"]
abbrev s35 : Stmt := top 50
def c35 : RE.Ct := ⟨n35, defScope s35, none, bl, cs, fs, [Str.ofString "held"], [5], [], []⟩
def f35 : Option RE.Fn := RE.cDef 40 c35 0 2 (defBody s35)
def t35 : RE.Fn := f35.getD ⟨0, 0, false, none, .nil⟩
theorem ok35 : f35 = some t35 := RE.some_getD (by decide +kernel)
theorem sc35 : FnScope n35 [Str.ofString "floor", Str.ofString "word"] (defScope s35) := ⟨rfl, rfl, rfl, by decide +kernel, rfl, by decide +kernel, by decide +kernel⟩
def n36 : List Str := [Str.ofString "floor", Str.ofString "word"]
abbrev s36 : Stmt := top 51
def c36 : RE.Ct := ⟨n36, defScope s36, none, bl, cs, fs, [], [], [], []⟩
def f36 : Option RE.Fn := RE.cDef 40 c36 0 1 (defBody s36)
def t36 : RE.Fn := f36.getD ⟨0, 0, false, none, .nil⟩
theorem ok36 : f36 = some t36 := RE.some_getD (by decide +kernel)
theorem sc36 : FnScope n36 [Str.ofString "floor"] (defScope s36) := ⟨rfl, rfl, rfl, by decide +kernel, rfl, by decide +kernel, by decide +kernel⟩
def n37 : List Str := [Str.ofString "cup", Str.ofString "most", Str.ofString "ends", Str.ofString "way", Str.ofString "size", Str.ofString "corners", Str.ofString "floor", Str.ofString "wide", Str.ofString "row"]
abbrev s37 : Stmt := top 52
def c37 : RE.Ct := ⟨n37, defScope s37, none, bl, cs, fs, [], [0], [], [0]⟩
def f37 : Option RE.Fn := RE.cDef 40 c37 1 2 (defBody s37)
def t37 : RE.Fn := f37.getD ⟨0, 0, false, none, .nil⟩
theorem ok37 : f37 = some t37 := RE.some_getD (by decide +kernel)
theorem sc37 : FnScope n37 [Str.ofString "cup", Str.ofString "most"] (defScope s37) := ⟨rfl, rfl, rfl, by decide +kernel, rfl, by decide +kernel, by decide +kernel⟩
def n38 : List Str := [Str.ofString "floor", Str.ofString "word", Str.ofString "rows", Str.ofString "columns", Str.ofString "led", Str.ofString "places", Str.ofString "square"]
abbrev s38 : Stmt := top 53
def c38 : RE.Ct := ⟨n38, defScope s38, none, bl, cs, fs, [], [], [], []⟩
def f38 : Option RE.Fn := RE.cDef 40 c38 0 1 (defBody s38)
def t38 : RE.Fn := f38.getD ⟨0, 0, false, none, .nil⟩
theorem ok38 : f38 = some t38 := RE.some_getD (by decide +kernel)
theorem sc38 : FnScope n38 [Str.ofString "floor"] (defScope s38) := ⟨rfl, rfl, rfl, by decide +kernel, rfl, by decide +kernel, by decide +kernel⟩
def n39 : List Str := [Str.ofString "floor", Str.ofString "one", Str.ofString "other", Str.ofString "told", Str.ofString "square", Str.ofString "led"]
abbrev s39 : Stmt := top 54
def c39 : RE.Ct := ⟨n39, defScope s39, none, bl, cs, fs, [], [], [], []⟩
def f39 : Option RE.Fn := RE.cDef 40 c39 0 1 (defBody s39)
def t39 : RE.Fn := f39.getD ⟨0, 0, false, none, .nil⟩
theorem ok39 : f39 = some t39 := RE.some_getD (by decide +kernel)
theorem sc39 : FnScope n39 [Str.ofString "floor"] (defScope s39) := ⟨rfl, rfl, rfl, by decide +kernel, rfl, by decide +kernel, by decide +kernel⟩
def n40 : List Str := [Str.ofString "script", Str.ofString "cup", Str.ofString "three", Str.ofString "told", Str.ofString "words", Str.ofString "one", Str.ofString "most", Str.ofString "rows", Str.ofString "columns", Str.ofString "other"]
abbrev s40 : Stmt := top 55
def c40 : RE.Ct := ⟨n40, defScope s40, none, bl, cs, fs, [], [1, 3], [], []⟩
def f40 : Option RE.Fn := RE.cDef 40 c40 0 1 (defBody s40)
def t40 : RE.Fn := f40.getD ⟨0, 0, false, none, .nil⟩
theorem ok40 : f40 = some t40 := RE.some_getD (by decide +kernel)
theorem sc40 : FnScope n40 [Str.ofString "script"] (defScope s40) := ⟨rfl, rfl, rfl, by decide +kernel, rfl, by decide +kernel, by decide +kernel⟩
def no : RE.Fn := ⟨0, 0, false, none, .nil⟩
def T : List RE.Fn := [t0, t1, t2, t3, t4, t5, t6, t7, t8, t9, t10, t11, t12, t13, t14, t15, t16, t17, t18, t19, t20, t21, t22, t23, t24, t25, t26, t27, t28, t29, t30, t31, t32, t33, t34, t35, t36, t37, t38, t39, t40]
def FU : Nat := 10 ^ 30
end Lw
end

section
set_option linter.all false
set_option maxRecDepth 100000
set_option maxHeartbeats 0

namespace Lw
open PySem RE
def l_is_integer : RE.Fn := RE.Fn.mk 1 1 false none (RE.Ss.cons (RE.S.ret (RE.M.pur (RE.P.and (RE.P.op (RE.Op.isi "int") (RE.Ps.cons (RE.P.bvar 0) RE.Ps.nil)) (RE.P.not (RE.P.op (RE.Op.isi "bool") (RE.Ps.cons (RE.P.bvar 0) RE.Ps.nil)))))) RE.Ss.nil)
theorem e0 : t0 = l_is_integer := by kernel_rfl
theorem c_is_integer (k : Nat) (ds : List RE.D) : (RE.callF T FU (k + 1)).f 0 ds = RE.callV (RE.callF T FU k) FU l_is_integer ds := by rw [← e0]; rfl
def l_is_whole : RE.Fn := RE.Fn.mk 3 3 false none (RE.Ss.cons (RE.S.ret (RE.M.pur (RE.P.and (RE.P.call 0 (RE.Ps.cons (RE.P.var 0) RE.Ps.nil)) (RE.P.chain RE.Op.le RE.Op.le (RE.P.bvar 1) (RE.P.bvar 0) (RE.P.bvar 2))))) RE.Ss.nil)
theorem e1 : t1 = l_is_whole := by kernel_rfl
theorem c_is_whole (k : Nat) (ds : List RE.D) : (RE.callF T FU (k + 1)).f 1 ds = RE.callV (RE.callF T FU k) FU l_is_whole ds := by rw [← e1]; rfl
def l_is_tuple_of : RE.Fn := RE.Fn.mk 3 3 false none (RE.Ss.cons (RE.S.ret (RE.M.pur (RE.P.and (RE.P.op (RE.Op.isi "tuple") (RE.Ps.cons (RE.P.bvar 0) RE.Ps.nil)) (RE.P.chain RE.Op.le RE.Op.le (RE.P.bvar 1) (RE.P.op RE.Op.len (RE.Ps.cons (RE.P.bvar 0) RE.Ps.nil)) (RE.P.bvar 2))))) RE.Ss.nil)
theorem e2 : t2 = l_is_tuple_of := by kernel_rfl
theorem c_is_tuple_of (k : Nat) (ds : List RE.D) : (RE.callF T FU (k + 1)).f 2 ds = RE.callV (RE.callF T FU k) FU l_is_tuple_of ds := by rw [← e2]; rfl
def l_is_word_x1 : RE.P := RE.P.op RE.Op.isin (RE.Ps.cons (RE.P.bvar 4) (RE.Ps.cons (RE.P.bvar 1) RE.Ps.nil))
def l_is_word : RE.Fn := RE.Fn.mk 4 5 false none (RE.Ss.cons (RE.S.ret (RE.M.pur (RE.P.and (RE.P.op (RE.Op.isi "str") (RE.Ps.cons (RE.P.bvar 0) RE.Ps.nil)) (RE.P.and (RE.P.chain RE.Op.le RE.Op.le (RE.P.bvar 2) (RE.P.op RE.Op.len (RE.Ps.cons (RE.P.bvar 0) RE.Ps.nil)) (RE.P.bvar 3)) (RE.P.op RE.Op.all (RE.Ps.cons (RE.P.new (RE.F.comp l_is_word_x1 (RE.P.con (RE.D.bl true)) (RE.Tg.one 4) (RE.It.val (RE.P.bvar 0)) [4])) RE.Ps.nil)))))) RE.Ss.nil)
theorem e3 : t3 = l_is_word := by kernel_rfl
theorem c_is_word (k : Nat) (ds : List RE.D) : (RE.callF T FU (k + 1)).f 3 ds = RE.callV (RE.callF T FU k) FU l_is_word ds := by rw [← e3]; rfl
def l_fits_floor_x1 : RE.P := RE.P.call 3 (RE.Ps.cons (RE.P.var 1) (RE.Ps.cons (RE.P.op RE.Op.add (RE.Ps.cons (RE.P.con (RE.D.str [46])) (RE.Ps.cons (RE.P.con (RE.D.str [35])) RE.Ps.nil))) (RE.Ps.cons (RE.P.con (RE.D.int 1)) (RE.Ps.cons (RE.P.con (RE.D.int 12)) RE.Ps.nil))))
def l_fits_floor_x2 : RE.P := RE.P.op RE.Op.len (RE.Ps.cons (RE.P.bvar 1) RE.Ps.nil)
def l_fits_floor : RE.Fn := RE.Fn.mk 1 2 false none (RE.Ss.cons (RE.S.ite (RE.M.pur (RE.P.or (RE.P.not (RE.P.call 2 (RE.Ps.cons (RE.P.var 0) (RE.Ps.cons (RE.P.con (RE.D.int 1)) (RE.Ps.cons (RE.P.con (RE.D.int 12)) RE.Ps.nil))))) (RE.P.not (RE.P.op RE.Op.all (RE.Ps.cons (RE.P.new (RE.F.comp l_fits_floor_x1 (RE.P.con (RE.D.bl true)) (RE.Tg.one 1) (RE.It.val (RE.P.bvar 0)) [1])) RE.Ps.nil))))) (RE.Ss.cons (RE.S.ret (RE.M.pur (RE.P.con (RE.D.bl false)))) RE.Ss.nil) RE.Ss.nil) (RE.Ss.cons (RE.S.ret (RE.M.pur (RE.P.op RE.Op.eq (RE.Ps.cons (RE.P.op RE.Op.lenset (RE.Ps.cons (RE.P.new (RE.F.comp l_fits_floor_x2 (RE.P.con (RE.D.bl true)) (RE.Tg.one 1) (RE.It.val (RE.P.bvar 0)) [1])) RE.Ps.nil)) (RE.Ps.cons (RE.P.con (RE.D.int 1)) RE.Ps.nil))))) RE.Ss.nil))
theorem e4 : t4 = l_fits_floor := by kernel_rfl
theorem c_fits_floor (k : Nat) (ds : List RE.D) : (RE.callF T FU (k + 1)).f 4 ds = RE.callV (RE.callF T FU k) FU l_fits_floor ds := by rw [← e4]; rfl
def l_need_floor : RE.Fn := RE.Fn.mk 1 1 false none (RE.Ss.cons (RE.S.ite (RE.M.pur (RE.P.not (RE.P.call 4 (RE.Ps.cons (RE.P.var 0) RE.Ps.nil)))) (RE.Ss.cons (RE.S.raise 0) RE.Ss.nil) RE.Ss.nil) RE.Ss.nil)
theorem e5 : t5 = l_need_floor := by kernel_rfl
theorem c_need_floor (k : Nat) (ds : List RE.D) : (RE.callF T FU (k + 1)).f 5 ds = RE.callV (RE.callF T FU k) FU l_need_floor ds := by rw [← e5]; rfl
def l_is_place : RE.Fn := RE.Fn.mk 1 1 false none (RE.Ss.cons (RE.S.ret (RE.M.pur (RE.P.and (RE.P.call 2 (RE.Ps.cons (RE.P.var 0) (RE.Ps.cons (RE.P.con (RE.D.int 2)) (RE.Ps.cons (RE.P.con (RE.D.int 2)) RE.Ps.nil)))) (RE.P.and (RE.P.call 1 (RE.Ps.cons (RE.P.op RE.Op.idx (RE.Ps.cons (RE.P.bvar 0) (RE.Ps.cons (RE.P.con (RE.D.int 0)) RE.Ps.nil))) (RE.Ps.cons (RE.P.con (RE.D.int 0)) (RE.Ps.cons (RE.P.op RE.Op.sub (RE.Ps.cons (RE.P.con (RE.D.int 12)) (RE.Ps.cons (RE.P.con (RE.D.int 1)) RE.Ps.nil))) RE.Ps.nil)))) (RE.P.call 1 (RE.Ps.cons (RE.P.op RE.Op.idx (RE.Ps.cons (RE.P.bvar 0) (RE.Ps.cons (RE.P.con (RE.D.int 1)) RE.Ps.nil))) (RE.Ps.cons (RE.P.con (RE.D.int 0)) (RE.Ps.cons (RE.P.op RE.Op.sub (RE.Ps.cons (RE.P.con (RE.D.int 12)) (RE.Ps.cons (RE.P.con (RE.D.int 1)) RE.Ps.nil))) RE.Ps.nil)))))))) RE.Ss.nil)
theorem e6 : t6 = l_is_place := by kernel_rfl
theorem c_is_place (k : Nat) (ds : List RE.D) : (RE.callF T FU (k + 1)).f 6 ds = RE.callV (RE.callF T FU k) FU l_is_place ds := by rw [← e6]; rfl
def l_squares_in_x1 : RE.P := RE.P.tup (RE.Ps.cons (RE.P.var 2) (RE.Ps.cons (RE.P.var 4) RE.Ps.nil))
def l_squares_in_y1 : RE.P := RE.P.op RE.Op.eq (RE.Ps.cons (RE.P.bvar 5) (RE.Ps.cons (RE.P.con (RE.D.str [46])) RE.Ps.nil))
def l_squares_in_b1 : RE.Ss := RE.Ss.cons (RE.S.set 1 (RE.Rhs.val (RE.M.pur (RE.P.op RE.Op.add (RE.Ps.cons (RE.P.bvar 1) (RE.Ps.cons (RE.P.new (RE.F.comp l_squares_in_x1 l_squares_in_y1 (RE.Tg.many [4, 5]) (RE.It.enum (RE.P.bvar 3)) [4, 5])) RE.Ps.nil)))))) RE.Ss.nil
def l_squares_in : RE.Fn := RE.Fn.mk 1 6 false none (RE.Ss.cons (RE.S.set 1 (RE.Rhs.val (RE.M.pur (RE.P.new (RE.F.lst RE.Ps.nil))))) (RE.Ss.cons (RE.S.for (RE.Tg.many [2, 3]) (RE.Src.pur (RE.It.enum (RE.P.var 0))) l_squares_in_b1) (RE.Ss.cons (RE.S.ret (RE.M.pur (RE.P.var 1))) RE.Ss.nil)))
theorem e7 : t7 = l_squares_in := by kernel_rfl
theorem c_squares_in (k : Nat) (ds : List RE.D) : (RE.callF T FU (k + 1)).f 7 ds = RE.callV (RE.callF T FU k) FU l_squares_in ds := by rw [← e7]; rfl
def l_is_square : RE.Fn := RE.Fn.mk 2 2 false none (RE.Ss.cons (RE.S.ite (RE.M.pur (RE.P.or (RE.P.not (RE.P.call 6 (RE.Ps.cons (RE.P.var 1) RE.Ps.nil))) (RE.P.or (RE.P.op RE.Op.ge (RE.Ps.cons (RE.P.op RE.Op.idx (RE.Ps.cons (RE.P.bvar 1) (RE.Ps.cons (RE.P.con (RE.D.int 0)) RE.Ps.nil))) (RE.Ps.cons (RE.P.op RE.Op.len (RE.Ps.cons (RE.P.bvar 0) RE.Ps.nil)) RE.Ps.nil))) (RE.P.op RE.Op.ge (RE.Ps.cons (RE.P.op RE.Op.idx (RE.Ps.cons (RE.P.bvar 1) (RE.Ps.cons (RE.P.con (RE.D.int 1)) RE.Ps.nil))) (RE.Ps.cons (RE.P.op RE.Op.len (RE.Ps.cons (RE.P.op RE.Op.idx (RE.Ps.cons (RE.P.bvar 0) (RE.Ps.cons (RE.P.con (RE.D.int 0)) RE.Ps.nil))) RE.Ps.nil)) RE.Ps.nil)))))) (RE.Ss.cons (RE.S.ret (RE.M.pur (RE.P.con (RE.D.bl false)))) RE.Ss.nil) RE.Ss.nil) (RE.Ss.cons (RE.S.ret (RE.M.pur (RE.P.op RE.Op.eq (RE.Ps.cons (RE.P.op RE.Op.idx (RE.Ps.cons (RE.P.op RE.Op.idx (RE.Ps.cons (RE.P.bvar 0) (RE.Ps.cons (RE.P.op RE.Op.idx (RE.Ps.cons (RE.P.bvar 1) (RE.Ps.cons (RE.P.con (RE.D.int 0)) RE.Ps.nil))) RE.Ps.nil))) (RE.Ps.cons (RE.P.op RE.Op.idx (RE.Ps.cons (RE.P.bvar 1) (RE.Ps.cons (RE.P.con (RE.D.int 1)) RE.Ps.nil))) RE.Ps.nil))) (RE.Ps.cons (RE.P.con (RE.D.str [46])) RE.Ps.nil))))) RE.Ss.nil))
theorem e8 : t8 = l_is_square := by kernel_rfl
theorem c_is_square (k : Nat) (ds : List RE.D) : (RE.callF T FU (k + 1)).f 8 ds = RE.callV (RE.callF T FU k) FU l_is_square ds := by rw [← e8]; rfl
def l_need_square : RE.Fn := RE.Fn.mk 2 2 false none (RE.Ss.cons (RE.S.ite (RE.M.pur (RE.P.not (RE.P.call 8 (RE.Ps.cons (RE.P.var 0) (RE.Ps.cons (RE.P.var 1) RE.Ps.nil))))) (RE.Ss.cons (RE.S.raise 0) RE.Ss.nil) RE.Ss.nil) RE.Ss.nil)
theorem e9 : t9 = l_need_square := by kernel_rfl
theorem c_need_square (k : Nat) (ds : List RE.D) : (RE.callF T FU (k + 1)).f 9 ds = RE.callV (RE.callF T FU k) FU l_need_square ds := by rw [← e9]; rfl
def l_turned_in_x2 : RE.P := RE.P.op RE.Op.idx (RE.Ps.cons (RE.P.bvar 2) (RE.Ps.cons (RE.P.bvar 1) RE.Ps.nil))
def l_turned_in_x1 : RE.P := RE.P.op RE.Op.join (RE.Ps.cons (RE.P.con (RE.D.str [])) (RE.Ps.cons (RE.P.new (RE.F.comp l_turned_in_x2 (RE.P.con (RE.D.bl true)) (RE.Tg.one 2) (RE.It.val (RE.P.op RE.Op.rev (RE.Ps.cons (RE.P.bvar 0) RE.Ps.nil))) [2])) RE.Ps.nil))
def l_turned_in : RE.Fn := RE.Fn.mk 1 3 false none (RE.Ss.cons (RE.S.ret (RE.M.pur (RE.P.op RE.Op.tuple (RE.Ps.cons (RE.P.new (RE.F.comp l_turned_in_x1 (RE.P.con (RE.D.bl true)) (RE.Tg.one 1) (RE.It.rng (RE.Ps.cons (RE.P.op RE.Op.len (RE.Ps.cons (RE.P.op RE.Op.idx (RE.Ps.cons (RE.P.bvar 0) (RE.Ps.cons (RE.P.con (RE.D.int 0)) RE.Ps.nil))) RE.Ps.nil)) RE.Ps.nil)) [1])) RE.Ps.nil)))) RE.Ss.nil)
theorem e10 : t10 = l_turned_in := by kernel_rfl
theorem c_turned_in (k : Nat) (ds : List RE.D) : (RE.callF T FU (k + 1)).f 10 ds = RE.callV (RE.callF T FU k) FU l_turned_in ds := by rw [← e10]; rfl
def l_mirrored_in_x1 : RE.P := RE.P.op RE.Op.rev (RE.Ps.cons (RE.P.bvar 1) RE.Ps.nil)
def l_mirrored_in : RE.Fn := RE.Fn.mk 1 2 false none (RE.Ss.cons (RE.S.ret (RE.M.pur (RE.P.op RE.Op.tuple (RE.Ps.cons (RE.P.new (RE.F.comp l_mirrored_in_x1 (RE.P.con (RE.D.bl true)) (RE.Tg.one 1) (RE.It.val (RE.P.bvar 0)) [1])) RE.Ps.nil)))) RE.Ss.nil)
theorem e11 : t11 = l_mirrored_in := by kernel_rfl
theorem c_mirrored_in (k : Nat) (ds : List RE.D) : (RE.callF T FU (k + 1)).f 11 ds = RE.callV (RE.callF T FU k) FU l_mirrored_in ds := by rw [← e11]; rfl
def l_squares_of : RE.Fn := RE.Fn.mk 1 1 false none (RE.Ss.cons (RE.S.expr (RE.M.pur (RE.P.call 5 (RE.Ps.cons (RE.P.var 0) RE.Ps.nil)))) (RE.Ss.cons (RE.S.ret (RE.M.pur (RE.P.op RE.Op.tuple (RE.Ps.cons (RE.P.call 7 (RE.Ps.cons (RE.P.var 0) RE.Ps.nil)) RE.Ps.nil)))) RE.Ss.nil))
theorem e12 : t12 = l_squares_of := by kernel_rfl
theorem c_squares_of (k : Nat) (ds : List RE.D) : (RE.callF T FU (k + 1)).f 12 ds = RE.callV (RE.callF T FU k) FU l_squares_of ds := by rw [← e12]; rfl
def l_floor_turned : RE.Fn := RE.Fn.mk 1 1 false none (RE.Ss.cons (RE.S.expr (RE.M.pur (RE.P.call 5 (RE.Ps.cons (RE.P.var 0) RE.Ps.nil)))) (RE.Ss.cons (RE.S.ret (RE.M.pur (RE.P.call 10 (RE.Ps.cons (RE.P.var 0) RE.Ps.nil)))) RE.Ss.nil))
theorem e13 : t13 = l_floor_turned := by kernel_rfl
theorem c_floor_turned (k : Nat) (ds : List RE.D) : (RE.callF T FU (k + 1)).f 13 ds = RE.callV (RE.callF T FU k) FU l_floor_turned ds := by rw [← e13]; rfl
def l_floor_mirrored : RE.Fn := RE.Fn.mk 1 1 false none (RE.Ss.cons (RE.S.expr (RE.M.pur (RE.P.call 5 (RE.Ps.cons (RE.P.var 0) RE.Ps.nil)))) (RE.Ss.cons (RE.S.ret (RE.M.pur (RE.P.call 11 (RE.Ps.cons (RE.P.var 0) RE.Ps.nil)))) RE.Ss.nil))
theorem e14 : t14 = l_floor_mirrored := by kernel_rfl
theorem c_floor_mirrored (k : Nat) (ds : List RE.D) : (RE.callF T FU (k + 1)).f 14 ds = RE.callV (RE.callF T FU k) FU l_floor_mirrored ds := by rw [← e14]; rfl
def l_goes_to : RE.Fn := RE.Fn.mk 4 6 false none (RE.Ss.cons (RE.S.unpack [4, 5] (RE.M.pur (RE.P.var 3))) (RE.Ss.cons (RE.S.ite (RE.M.pur (RE.P.op RE.Op.isin (RE.Ps.cons (RE.P.bvar 2) (RE.Ps.cons (RE.P.con (RE.D.tup [RE.D.str [98, 97, 99, 107], RE.D.str [104, 97, 108, 102], RE.D.str [113, 117, 97, 114, 116, 101, 114], RE.D.str [117, 112, 114, 105, 103, 104, 116]])) RE.Ps.nil)))) (RE.Ss.cons (RE.S.set 4 (RE.Rhs.val (RE.M.pur (RE.P.op RE.Op.sub (RE.Ps.cons (RE.P.op RE.Op.sub (RE.Ps.cons (RE.P.bvar 0) (RE.Ps.cons (RE.P.con (RE.D.int 1)) RE.Ps.nil))) (RE.Ps.cons (RE.P.bvar 4) RE.Ps.nil)))))) RE.Ss.nil) RE.Ss.nil) (RE.Ss.cons (RE.S.ite (RE.M.pur (RE.P.op RE.Op.isin (RE.Ps.cons (RE.P.bvar 2) (RE.Ps.cons (RE.P.con (RE.D.tup [RE.D.str [98, 97, 99, 107], RE.D.str [102, 108, 97, 116], RE.D.str [104, 97, 108, 102], RE.D.str [116, 104, 114, 101, 101, 113, 117, 97, 114, 116, 101, 114]])) RE.Ps.nil)))) (RE.Ss.cons (RE.S.set 5 (RE.Rhs.val (RE.M.pur (RE.P.op RE.Op.sub (RE.Ps.cons (RE.P.op RE.Op.sub (RE.Ps.cons (RE.P.bvar 1) (RE.Ps.cons (RE.P.con (RE.D.int 1)) RE.Ps.nil))) (RE.Ps.cons (RE.P.bvar 5) RE.Ps.nil)))))) RE.Ss.nil) RE.Ss.nil) (RE.Ss.cons (RE.S.ret (RE.M.pur (RE.P.ite (RE.P.op RE.Op.isin (RE.Ps.cons (RE.P.bvar 2) (RE.Ps.cons (RE.P.con (RE.D.tup [RE.D.str [98, 97, 99, 107], RE.D.str [113, 117, 97, 114, 116, 101, 114], RE.D.str [115, 108, 97, 110, 116], RE.D.str [116, 104, 114, 101, 101, 113, 117, 97, 114, 116, 101, 114]])) RE.Ps.nil))) (RE.P.tup (RE.Ps.cons (RE.P.var 5) (RE.Ps.cons (RE.P.var 4) RE.Ps.nil))) (RE.P.tup (RE.Ps.cons (RE.P.var 4) (RE.Ps.cons (RE.P.var 5) RE.Ps.nil)))))) RE.Ss.nil))))
theorem e15 : t15 = l_goes_to := by kernel_rfl
theorem c_goes_to (k : Nat) (ds : List RE.D) : (RE.callF T FU (k + 1)).f 15 ds = RE.callV (RE.callF T FU k) FU l_goes_to ds := by rw [← e15]; rfl
def l_sides_by : RE.Fn := RE.Fn.mk 3 3 false none (RE.Ss.cons (RE.S.ret (RE.M.pur (RE.P.ite (RE.P.op RE.Op.isin (RE.Ps.cons (RE.P.bvar 2) (RE.Ps.cons (RE.P.con (RE.D.tup [RE.D.str [98, 97, 99, 107], RE.D.str [113, 117, 97, 114, 116, 101, 114], RE.D.str [115, 108, 97, 110, 116], RE.D.str [116, 104, 114, 101, 101, 113, 117, 97, 114, 116, 101, 114]])) RE.Ps.nil))) (RE.P.tup (RE.Ps.cons (RE.P.var 1) (RE.Ps.cons (RE.P.var 0) RE.Ps.nil))) (RE.P.tup (RE.Ps.cons (RE.P.var 0) (RE.Ps.cons (RE.P.var 1) RE.Ps.nil)))))) RE.Ss.nil)
theorem e16 : t16 = l_sides_by := by kernel_rfl
theorem c_sides_by (k : Nat) (ds : List RE.D) : (RE.callF T FU (k + 1)).f 16 ds = RE.callV (RE.callF T FU k) FU l_sides_by ds := by rw [← e16]; rfl
def l_floor_by_z1 : RE.F := RE.F.op RE.FOp.rep (RE.Ps.cons (RE.P.new (RE.F.lst (RE.Ps.cons (RE.P.con (RE.D.str [])) RE.Ps.nil))) (RE.Ps.cons (RE.P.bvar 7) RE.Ps.nil))
def l_floor_by_b2 : RE.Ss := RE.Ss.cons (RE.S.unpack [9, 10] (RE.M.pur (RE.P.call 15 (RE.Ps.cons (RE.P.var 4) (RE.Ps.cons (RE.P.var 5) (RE.Ps.cons (RE.P.var 1) (RE.Ps.cons (RE.P.tup (RE.Ps.cons (RE.P.var 3) (RE.Ps.cons (RE.P.var 8) RE.Ps.nil))) RE.Ps.nil))))))) (RE.Ss.cons (RE.S.asg (RE.Tgt.sub2 2 (RE.P.var 9) (RE.P.var 10)) (RE.M.pur (RE.P.op RE.Op.idx (RE.Ps.cons (RE.P.op RE.Op.idx (RE.Ps.cons (RE.P.bvar 0) (RE.Ps.cons (RE.P.bvar 3) RE.Ps.nil))) (RE.Ps.cons (RE.P.bvar 8) RE.Ps.nil))))) RE.Ss.nil)
def l_floor_by_b1 : RE.Ss := RE.Ss.cons (RE.S.for (RE.Tg.one 8) (RE.Src.pur (RE.It.rng (RE.Ps.cons (RE.P.var 5) RE.Ps.nil))) l_floor_by_b2) RE.Ss.nil
def l_floor_by_x1 : RE.P := RE.P.op RE.Op.join (RE.Ps.cons (RE.P.con (RE.D.str [])) (RE.Ps.cons (RE.P.bvar 11) RE.Ps.nil))
def l_floor_by : RE.Fn := RE.Fn.mk 2 12 false none (RE.Ss.cons (RE.S.par [(RE.Tgt.name 4, RE.Rhs.val (RE.M.pur (RE.P.op RE.Op.len (RE.Ps.cons (RE.P.bvar 0) RE.Ps.nil)))), (RE.Tgt.name 5, RE.Rhs.val (RE.M.pur (RE.P.op RE.Op.len (RE.Ps.cons (RE.P.op RE.Op.idx (RE.Ps.cons (RE.P.bvar 0) (RE.Ps.cons (RE.P.con (RE.D.int 0)) RE.Ps.nil))) RE.Ps.nil))))]) (RE.Ss.cons (RE.S.unpack [6, 7] (RE.M.pur (RE.P.call 16 (RE.Ps.cons (RE.P.var 4) (RE.Ps.cons (RE.P.var 5) (RE.Ps.cons (RE.P.var 1) RE.Ps.nil)))))) (RE.Ss.cons (RE.S.setLL 2 l_floor_by_z1 (RE.Tg.one 3) (RE.It.rng (RE.Ps.cons (RE.P.var 6) RE.Ps.nil)) [3]) (RE.Ss.cons (RE.S.for (RE.Tg.one 3) (RE.Src.pur (RE.It.rng (RE.Ps.cons (RE.P.var 4) RE.Ps.nil))) l_floor_by_b1) (RE.Ss.cons (RE.S.frz 2 (RE.S.ret (RE.M.pur (RE.P.op RE.Op.tuple (RE.Ps.cons (RE.P.new (RE.F.comp l_floor_by_x1 (RE.P.con (RE.D.bl true)) (RE.Tg.one 11) (RE.It.val (RE.P.bvar 2)) [11])) RE.Ps.nil))))) RE.Ss.nil)))))
theorem e17 : t17 = l_floor_by := by kernel_rfl
theorem c_floor_by (k : Nat) (ds : List RE.D) : (RE.callF T FU (k + 1)).f 17 ds = RE.callV (RE.callF T FU k) FU l_floor_by ds := by rw [← e17]; rfl
def l_own_words_in_x1 : RE.P := RE.P.var 1
def l_own_words_in_y1 : RE.P := RE.P.op RE.Op.eq (RE.Ps.cons (RE.P.call 17 (RE.Ps.cons (RE.P.var 0) (RE.Ps.cons (RE.P.var 1) RE.Ps.nil))) (RE.Ps.cons (RE.P.bvar 0) RE.Ps.nil))
def l_own_words_in : RE.Fn := RE.Fn.mk 1 2 false none (RE.Ss.cons (RE.S.ret (RE.M.pur (RE.P.new (RE.F.comp l_own_words_in_x1 l_own_words_in_y1 (RE.Tg.one 1) (RE.It.val (RE.P.con (RE.D.tup [RE.D.str [98, 97, 99, 107], RE.D.str [102, 108, 97, 116], RE.D.str [104, 97, 108, 102], RE.D.str [113, 117, 97, 114, 116, 101, 114], RE.D.str [115, 108, 97, 110, 116], RE.D.str [115, 116, 97, 121], RE.D.str [116, 104, 114, 101, 101, 113, 117, 97, 114, 116, 101, 114], RE.D.str [117, 112, 114, 105, 103, 104, 116]]))) [1])))) RE.Ss.nil)
theorem e18 : t18 = l_own_words_in := by kernel_rfl
theorem c_own_words_in (k : Nat) (ds : List RE.D) : (RE.callF T FU (k + 1)).f 18 ds = RE.callV (RE.callF T FU k) FU l_own_words_in ds := by rw [← e18]; rfl
def l_behind_in_x1 : RE.P := RE.P.call 15 (RE.Ps.cons (RE.P.var 5) (RE.Ps.cons (RE.P.var 6) (RE.Ps.cons (RE.P.var 1) (RE.Ps.cons (RE.P.call 15 (RE.Ps.cons (RE.P.con (RE.D.int 2)) (RE.Ps.cons (RE.P.con (RE.D.int 3)) (RE.Ps.cons (RE.P.var 0) (RE.Ps.cons (RE.P.var 7) RE.Ps.nil))))) RE.Ps.nil))))
def l_behind_in_x2 : RE.P := RE.P.call 15 (RE.Ps.cons (RE.P.con (RE.D.int 2)) (RE.Ps.cons (RE.P.con (RE.D.int 3)) (RE.Ps.cons (RE.P.var 4) (RE.Ps.cons (RE.P.var 7) RE.Ps.nil))))
def l_behind_in_b1 : RE.Ss := RE.Ss.cons (RE.S.ite (RE.M.pur (RE.P.and (RE.P.op RE.Op.eq (RE.Ps.cons (RE.P.call 16 (RE.Ps.cons (RE.P.con (RE.D.int 2)) (RE.Ps.cons (RE.P.con (RE.D.int 3)) (RE.Ps.cons (RE.P.var 4) RE.Ps.nil)))) (RE.Ps.cons (RE.P.bvar 3) RE.Ps.nil))) (RE.P.op RE.Op.eq (RE.Ps.cons (RE.P.new (RE.F.comp l_behind_in_x2 (RE.P.con (RE.D.bl true)) (RE.Tg.one 7) (RE.It.val (RE.P.tup (RE.Ps.cons (RE.P.tup (RE.Ps.cons (RE.P.con (RE.D.int 0)) (RE.Ps.cons (RE.P.con (RE.D.int 0)) RE.Ps.nil))) (RE.Ps.cons (RE.P.tup (RE.Ps.cons (RE.P.con (RE.D.int 0)) (RE.Ps.cons (RE.P.con (RE.D.int 1)) RE.Ps.nil))) RE.Ps.nil)))) [7])) (RE.Ps.cons (RE.P.bvar 2) RE.Ps.nil))))) (RE.Ss.cons (RE.S.ret (RE.M.pur (RE.P.var 4))) RE.Ss.nil) RE.Ss.nil) RE.Ss.nil
def l_behind_in : RE.Fn := RE.Fn.mk 2 8 false none (RE.Ss.cons (RE.S.unpack [5, 6] (RE.M.pur (RE.P.call 16 (RE.Ps.cons (RE.P.con (RE.D.int 2)) (RE.Ps.cons (RE.P.con (RE.D.int 3)) (RE.Ps.cons (RE.P.var 0) RE.Ps.nil)))))) (RE.Ss.cons (RE.S.set 2 (RE.Rhs.val (RE.M.pur (RE.P.new (RE.F.comp l_behind_in_x1 (RE.P.con (RE.D.bl true)) (RE.Tg.one 7) (RE.It.val (RE.P.tup (RE.Ps.cons (RE.P.tup (RE.Ps.cons (RE.P.con (RE.D.int 0)) (RE.Ps.cons (RE.P.con (RE.D.int 0)) RE.Ps.nil))) (RE.Ps.cons (RE.P.tup (RE.Ps.cons (RE.P.con (RE.D.int 0)) (RE.Ps.cons (RE.P.con (RE.D.int 1)) RE.Ps.nil))) RE.Ps.nil)))) [7]))))) (RE.Ss.cons (RE.S.set 3 (RE.Rhs.val (RE.M.pur (RE.P.call 16 (RE.Ps.cons (RE.P.var 5) (RE.Ps.cons (RE.P.var 6) (RE.Ps.cons (RE.P.var 1) RE.Ps.nil))))))) (RE.Ss.cons (RE.S.for (RE.Tg.one 4) (RE.Src.pur (RE.It.val (RE.P.con (RE.D.tup [RE.D.str [98, 97, 99, 107], RE.D.str [102, 108, 97, 116], RE.D.str [104, 97, 108, 102], RE.D.str [113, 117, 97, 114, 116, 101, 114], RE.D.str [115, 108, 97, 110, 116], RE.D.str [115, 116, 97, 121], RE.D.str [116, 104, 114, 101, 101, 113, 117, 97, 114, 116, 101, 114], RE.D.str [117, 112, 114, 105, 103, 104, 116]])))) l_behind_in_b1) (RE.Ss.cons (RE.S.ret (RE.M.pur (RE.P.con RE.D.non))) RE.Ss.nil)))))
theorem e19 : t19 = l_behind_in := by kernel_rfl
theorem c_behind_in (k : Nat) (ds : List RE.D) : (RE.callF T FU (k + 1)).f 19 ds = RE.callV (RE.callF T FU k) FU l_behind_in ds := by rw [← e19]; rfl
def l_against_in : RE.Fn := RE.Fn.mk 1 1 false none (RE.Ss.cons (RE.S.ret (RE.M.pur (RE.P.op RE.Op.get2 (RE.Ps.cons (RE.P.dic (RE.Ps.cons (RE.P.con (RE.D.str [113, 117, 97, 114, 116, 101, 114])) (RE.Ps.cons (RE.P.con (RE.D.str [116, 104, 114, 101, 101, 113, 117, 97, 114, 116, 101, 114])) RE.Ps.nil)) (RE.Ps.cons (RE.P.con (RE.D.str [116, 104, 114, 101, 101, 113, 117, 97, 114, 116, 101, 114])) (RE.Ps.cons (RE.P.con (RE.D.str [113, 117, 97, 114, 116, 101, 114])) RE.Ps.nil))) (RE.Ps.cons (RE.P.var 0) (RE.Ps.cons (RE.P.var 0) RE.Ps.nil)))))) RE.Ss.nil)
theorem e20 : t20 = l_against_in := by kernel_rfl
theorem c_against_in (k : Nat) (ds : List RE.D) : (RE.callF T FU (k + 1)).f 20 ds = RE.callV (RE.callF T FU k) FU l_against_in ds := by rw [← e20]; rfl
def l_need_turn_word : RE.Fn := RE.Fn.mk 1 1 false none (RE.Ss.cons (RE.S.ite (RE.M.pur (RE.P.or (RE.P.not (RE.P.op (RE.Op.isi "str") (RE.Ps.cons (RE.P.bvar 0) RE.Ps.nil))) (RE.P.op RE.Op.notin (RE.Ps.cons (RE.P.bvar 0) (RE.Ps.cons (RE.P.con (RE.D.tup [RE.D.str [98, 97, 99, 107], RE.D.str [102, 108, 97, 116], RE.D.str [104, 97, 108, 102], RE.D.str [113, 117, 97, 114, 116, 101, 114], RE.D.str [115, 108, 97, 110, 116], RE.D.str [115, 116, 97, 121], RE.D.str [116, 104, 114, 101, 101, 113, 117, 97, 114, 116, 101, 114], RE.D.str [117, 112, 114, 105, 103, 104, 116]])) RE.Ps.nil))))) (RE.Ss.cons (RE.S.raise 0) RE.Ss.nil) RE.Ss.nil) RE.Ss.nil)
theorem e21 : t21 = l_need_turn_word := by kernel_rfl
theorem c_need_turn_word (k : Nat) (ds : List RE.D) : (RE.callF T FU (k + 1)).f 21 ds = RE.callV (RE.callF T FU k) FU l_need_turn_word ds := by rw [← e21]; rfl
def l_floor_by_word : RE.Fn := RE.Fn.mk 2 2 false none (RE.Ss.cons (RE.S.expr (RE.M.pur (RE.P.call 5 (RE.Ps.cons (RE.P.var 0) RE.Ps.nil)))) (RE.Ss.cons (RE.S.expr (RE.M.pur (RE.P.call 21 (RE.Ps.cons (RE.P.var 1) RE.Ps.nil)))) (RE.Ss.cons (RE.S.ret (RE.M.pur (RE.P.call 17 (RE.Ps.cons (RE.P.var 0) (RE.Ps.cons (RE.P.var 1) RE.Ps.nil))))) RE.Ss.nil)))
theorem e22 : t22 = l_floor_by_word := by kernel_rfl
theorem c_floor_by_word (k : Nat) (ds : List RE.D) : (RE.callF T FU (k + 1)).f 22 ds = RE.callV (RE.callF T FU k) FU l_floor_by_word ds := by rw [← e22]; rfl
def l_square_by_word : RE.Fn := RE.Fn.mk 3 3 false none (RE.Ss.cons (RE.S.expr (RE.M.pur (RE.P.call 5 (RE.Ps.cons (RE.P.var 0) RE.Ps.nil)))) (RE.Ss.cons (RE.S.expr (RE.M.pur (RE.P.call 21 (RE.Ps.cons (RE.P.var 1) RE.Ps.nil)))) (RE.Ss.cons (RE.S.expr (RE.M.pur (RE.P.call 9 (RE.Ps.cons (RE.P.var 0) (RE.Ps.cons (RE.P.var 2) RE.Ps.nil))))) (RE.Ss.cons (RE.S.ret (RE.M.pur (RE.P.call 15 (RE.Ps.cons (RE.P.op RE.Op.len (RE.Ps.cons (RE.P.bvar 0) RE.Ps.nil)) (RE.Ps.cons (RE.P.op RE.Op.len (RE.Ps.cons (RE.P.op RE.Op.idx (RE.Ps.cons (RE.P.bvar 0) (RE.Ps.cons (RE.P.con (RE.D.int 0)) RE.Ps.nil))) RE.Ps.nil)) (RE.Ps.cons (RE.P.var 1) (RE.Ps.cons (RE.P.var 2) RE.Ps.nil))))))) RE.Ss.nil))))
theorem e23 : t23 = l_square_by_word := by kernel_rfl
theorem c_square_by_word (k : Nat) (ds : List RE.D) : (RE.callF T FU (k + 1)).f 23 ds = RE.callV (RE.callF T FU k) FU l_square_by_word ds := by rw [← e23]; rfl
def l_own_words : RE.Fn := RE.Fn.mk 1 1 false none (RE.Ss.cons (RE.S.expr (RE.M.pur (RE.P.call 5 (RE.Ps.cons (RE.P.var 0) RE.Ps.nil)))) (RE.Ss.cons (RE.S.ret (RE.M.pur (RE.P.op RE.Op.tuple (RE.Ps.cons (RE.P.call 18 (RE.Ps.cons (RE.P.var 0) RE.Ps.nil)) RE.Ps.nil)))) RE.Ss.nil))
theorem e24 : t24 = l_own_words := by kernel_rfl
theorem c_own_words (k : Nat) (ds : List RE.D) : (RE.callF T FU (k + 1)).f 24 ds = RE.callV (RE.callF T FU k) FU l_own_words ds := by rw [← e24]; rfl
def l_word_behind : RE.Fn := RE.Fn.mk 2 2 false none (RE.Ss.cons (RE.S.expr (RE.M.pur (RE.P.call 21 (RE.Ps.cons (RE.P.var 0) RE.Ps.nil)))) (RE.Ss.cons (RE.S.expr (RE.M.pur (RE.P.call 21 (RE.Ps.cons (RE.P.var 1) RE.Ps.nil)))) (RE.Ss.cons (RE.S.ret (RE.M.pur (RE.P.call 19 (RE.Ps.cons (RE.P.var 0) (RE.Ps.cons (RE.P.var 1) RE.Ps.nil))))) RE.Ss.nil)))
theorem e25 : t25 = l_word_behind := by kernel_rfl
theorem c_word_behind (k : Nat) (ds : List RE.D) : (RE.callF T FU (k + 1)).f 25 ds = RE.callV (RE.callF T FU k) FU l_word_behind ds := by rw [← e25]; rfl
def l_word_against : RE.Fn := RE.Fn.mk 1 1 false none (RE.Ss.cons (RE.S.expr (RE.M.pur (RE.P.call 21 (RE.Ps.cons (RE.P.var 0) RE.Ps.nil)))) (RE.Ss.cons (RE.S.ret (RE.M.pur (RE.P.call 20 (RE.Ps.cons (RE.P.var 0) RE.Ps.nil)))) RE.Ss.nil))
theorem e26 : t26 = l_word_against := by kernel_rfl
theorem c_word_against (k : Nat) (ds : List RE.D) : (RE.callF T FU (k + 1)).f 26 ds = RE.callV (RE.callF T FU k) FU l_word_against ds := by rw [← e26]; rfl
def l_law_cup : RE.Fn := RE.Fn.mk 1 2 false (some (RE.F.lst (RE.Ps.cons (RE.P.ite (RE.P.op RE.Op.ge (RE.Ps.cons (RE.P.bvar 1) (RE.Ps.cons (RE.P.op RE.Op.pow (RE.Ps.cons (RE.P.con (RE.D.int 10)) (RE.Ps.cons (RE.P.con (RE.D.int 18)) RE.Ps.nil))) RE.Ps.nil))) (RE.P.op RE.Op.fdiv (RE.Ps.cons (RE.P.bvar 1) (RE.Ps.cons (RE.P.con (RE.D.int 73)) RE.Ps.nil))) (RE.P.con (RE.D.int 0))) (RE.Ps.cons (RE.P.op RE.Op.add (RE.Ps.cons (RE.P.op RE.Op.mod (RE.Ps.cons (RE.P.op RE.Op.int (RE.Ps.cons (RE.P.op RE.Op.add (RE.Ps.cons (RE.P.op RE.Op.mul (RE.Ps.cons (RE.P.bvar 1) (RE.Ps.cons (RE.P.con (RE.D.int 283)) RE.Ps.nil))) (RE.Ps.cons (RE.P.con (RE.D.int 3907)) RE.Ps.nil))) RE.Ps.nil)) (RE.Ps.cons (RE.P.con (RE.D.int 2077503167)) RE.Ps.nil))) (RE.Ps.cons (RE.P.con (RE.D.int 167)) RE.Ps.nil))) RE.Ps.nil)))) (RE.Ss.cons (RE.S.set 1 (RE.Rhs.val (RE.M.pur (RE.P.op RE.Op.abs (RE.Ps.cons (RE.P.op RE.Op.idx (RE.Ps.cons (RE.P.op RE.Op.add (RE.Ps.cons (RE.P.new (RE.F.op RE.FOp.list (RE.Ps.cons (RE.P.bvar 0) RE.Ps.nil))) (RE.Ps.cons (RE.P.new (RE.F.lst (RE.Ps.cons (RE.P.con (RE.D.int 0)) RE.Ps.nil))) RE.Ps.nil))) (RE.Ps.cons (RE.P.con (RE.D.int 0)) RE.Ps.nil))) RE.Ps.nil))))) RE.Ss.nil)
theorem e27 : t27 = l_law_cup := by kernel_rfl
theorem c_law_cup (k : Nat) (ds : List RE.D) : (RE.callF T FU (k + 1)).fr 27 ds = RE.callR (RE.callF T FU k) FU l_law_cup ds := by rw [← e27]; rfl
def l_law_roll : RE.Fn := RE.Fn.mk 2 4 true none (RE.Ss.cons (RE.S.ite (RE.M.pur (RE.P.op RE.Op.gt (RE.Ps.cons (RE.P.op RE.Op.idx (RE.Ps.cons (RE.P.bvar 0) (RE.Ps.cons (RE.P.con (RE.D.int 0)) RE.Ps.nil))) (RE.Ps.cons (RE.P.con (RE.D.int 0)) RE.Ps.nil)))) (RE.Ss.cons (RE.S.set 3 (RE.Rhs.val (RE.M.pur (RE.P.op RE.Op.mod (RE.Ps.cons (RE.P.op RE.Op.int (RE.Ps.cons (RE.P.op RE.Op.idx (RE.Ps.cons (RE.P.bvar 0) (RE.Ps.cons (RE.P.con (RE.D.int 0)) RE.Ps.nil))) RE.Ps.nil)) (RE.Ps.cons (RE.P.bvar 1) RE.Ps.nil)))))) (RE.Ss.cons (RE.S.asg (RE.Tgt.sub 0 (RE.P.con (RE.D.int 0))) (RE.M.pur (RE.P.op RE.Op.fdiv (RE.Ps.cons (RE.P.op RE.Op.idx (RE.Ps.cons (RE.P.bvar 0) (RE.Ps.cons (RE.P.con (RE.D.int 0)) RE.Ps.nil))) (RE.Ps.cons (RE.P.bvar 1) RE.Ps.nil))))) (RE.Ss.cons (RE.S.ret (RE.M.pur (RE.P.var 3))) RE.Ss.nil))) RE.Ss.nil) (RE.Ss.cons (RE.S.asg (RE.Tgt.sub 0 (RE.P.con (RE.D.int 1))) (RE.M.pur (RE.P.op RE.Op.mod (RE.Ps.cons (RE.P.op RE.Op.int (RE.Ps.cons (RE.P.op RE.Op.add (RE.Ps.cons (RE.P.op RE.Op.mul (RE.Ps.cons (RE.P.op RE.Op.idx (RE.Ps.cons (RE.P.bvar 0) (RE.Ps.cons (RE.P.con (RE.D.int 1)) RE.Ps.nil))) (RE.Ps.cons (RE.P.con (RE.D.int 31051)) RE.Ps.nil))) (RE.Ps.cons (RE.P.con (RE.D.int 7993)) RE.Ps.nil))) RE.Ps.nil)) (RE.Ps.cons (RE.P.con (RE.D.int 2147483543)) RE.Ps.nil))))) (RE.Ss.cons (RE.S.set 2 (RE.Rhs.val (RE.M.pur (RE.P.op RE.Op.mod (RE.Ps.cons (RE.P.op RE.Op.int (RE.Ps.cons (RE.P.op RE.Op.mul (RE.Ps.cons (RE.P.op RE.Op.idx (RE.Ps.cons (RE.P.bvar 0) (RE.Ps.cons (RE.P.con (RE.D.int 1)) RE.Ps.nil))) (RE.Ps.cons (RE.P.op RE.Op.add (RE.Ps.cons (RE.P.op RE.Op.idx (RE.Ps.cons (RE.P.bvar 0) (RE.Ps.cons (RE.P.con (RE.D.int 1)) RE.Ps.nil))) (RE.Ps.cons (RE.P.con (RE.D.int 229)) RE.Ps.nil))) RE.Ps.nil))) RE.Ps.nil)) (RE.Ps.cons (RE.P.con (RE.D.int 2147483587)) RE.Ps.nil)))))) (RE.Ss.cons (RE.S.ret (RE.M.pur (RE.P.op RE.Op.mod (RE.Ps.cons (RE.P.op RE.Op.int (RE.Ps.cons (RE.P.op RE.Op.fdiv (RE.Ps.cons (RE.P.bvar 2) (RE.Ps.cons (RE.P.con (RE.D.int 821)) RE.Ps.nil))) RE.Ps.nil)) (RE.Ps.cons (RE.P.bvar 1) RE.Ps.nil))))) RE.Ss.nil))))
theorem e28 : t28 = l_law_roll := by kernel_rfl
theorem c_law_roll (k : Nat) (xs ds : List RE.D) : (RE.callF T FU (k + 1)).io 28 xs ds = RE.callI (RE.callF T FU k) FU l_law_roll xs ds := by rw [← e28]; rfl
def l_law_sort : RE.Fn := RE.Fn.mk 1 1 false none (RE.Ss.cons (RE.S.ite (RE.M.pur (RE.P.or (RE.P.op RE.Op.isN (RE.Ps.cons (RE.P.bvar 0) RE.Ps.nil)) (RE.P.op (RE.Op.isi "bool") (RE.Ps.cons (RE.P.bvar 0) RE.Ps.nil)))) (RE.Ss.cons (RE.S.ret (RE.M.pur (RE.P.ite (RE.P.op RE.Op.isN (RE.Ps.cons (RE.P.bvar 0) RE.Ps.nil)) (RE.P.con (RE.D.int 0)) (RE.P.con (RE.D.int 1))))) RE.Ss.nil) RE.Ss.nil) (RE.Ss.cons (RE.S.ite (RE.M.pur (RE.P.or (RE.P.op (RE.Op.isi "int") (RE.Ps.cons (RE.P.bvar 0) RE.Ps.nil)) (RE.P.op (RE.Op.isi "str") (RE.Ps.cons (RE.P.bvar 0) RE.Ps.nil)))) (RE.Ss.cons (RE.S.ret (RE.M.pur (RE.P.ite (RE.P.op (RE.Op.isi "int") (RE.Ps.cons (RE.P.bvar 0) RE.Ps.nil)) (RE.P.con (RE.D.int 2)) (RE.P.con (RE.D.int 3))))) RE.Ss.nil) RE.Ss.nil) (RE.Ss.cons (RE.S.ret (RE.M.pur (RE.P.ite (RE.P.op (RE.Op.isi "tuple") (RE.Ps.cons (RE.P.bvar 0) RE.Ps.nil)) (RE.P.con (RE.D.int 4)) (RE.P.ite (RE.P.op (RE.Op.isi "list") (RE.Ps.cons (RE.P.bvar 0) RE.Ps.nil)) (RE.P.con (RE.D.int 5)) (RE.P.con (RE.D.int 6)))))) RE.Ss.nil)))
theorem e29 : t29 = l_law_sort := by kernel_rfl
theorem c_law_sort (k : Nat) (ds : List RE.D) : (RE.callF T FU (k + 1)).f 29 ds = RE.callV (RE.callF T FU k) FU l_law_sort ds := by rw [← e29]; rfl
def l_law_like_x1 : RE.P := RE.P.con (RE.D.int 1)
def l_law_like_y1 : RE.P := RE.P.not (RE.P.call 30 (RE.Ps.cons (RE.P.var 3) (RE.Ps.cons (RE.P.var 4) RE.Ps.nil)))
def l_law_like : RE.Fn := RE.Fn.mk 2 5 false none (RE.Ss.cons (RE.S.set 2 (RE.Rhs.val (RE.M.pur (RE.P.call 29 (RE.Ps.cons (RE.P.var 1) RE.Ps.nil))))) (RE.Ss.cons (RE.S.ite (RE.M.pur (RE.P.or (RE.P.op RE.Op.ne (RE.Ps.cons (RE.P.call 29 (RE.Ps.cons (RE.P.var 0) RE.Ps.nil)) (RE.Ps.cons (RE.P.bvar 2) RE.Ps.nil))) (RE.P.op RE.Op.eq (RE.Ps.cons (RE.P.bvar 2) (RE.Ps.cons (RE.P.con (RE.D.int 6)) RE.Ps.nil))))) (RE.Ss.cons (RE.S.ret (RE.M.pur (RE.P.con (RE.D.bl false)))) RE.Ss.nil) RE.Ss.nil) (RE.Ss.cons (RE.S.ite (RE.M.pur (RE.P.op RE.Op.isin (RE.Ps.cons (RE.P.bvar 2) (RE.Ps.cons (RE.P.tup (RE.Ps.cons (RE.P.con (RE.D.int 4)) (RE.Ps.cons (RE.P.con (RE.D.int 5)) RE.Ps.nil))) RE.Ps.nil)))) (RE.Ss.cons (RE.S.ret (RE.M.pur (RE.P.and (RE.P.op RE.Op.eq (RE.Ps.cons (RE.P.op RE.Op.len (RE.Ps.cons (RE.P.bvar 0) RE.Ps.nil)) (RE.Ps.cons (RE.P.op RE.Op.len (RE.Ps.cons (RE.P.bvar 1) RE.Ps.nil)) RE.Ps.nil))) (RE.P.op RE.Op.eq (RE.Ps.cons (RE.P.new (RE.F.comp l_law_like_x1 l_law_like_y1 (RE.Tg.many [3, 4]) (RE.It.zip (RE.Ps.cons (RE.P.bvar 0) (RE.Ps.cons (RE.P.bvar 1) RE.Ps.nil))) [3, 4])) (RE.Ps.cons (RE.P.new (RE.F.lst RE.Ps.nil)) RE.Ps.nil)))))) RE.Ss.nil) RE.Ss.nil) (RE.Ss.cons (RE.S.ret (RE.M.pur (RE.P.op RE.Op.eq (RE.Ps.cons (RE.P.bvar 0) (RE.Ps.cons (RE.P.bvar 1) RE.Ps.nil))))) RE.Ss.nil))))
theorem e30 : t30 = l_law_like := by kernel_rfl
theorem c_law_like (k : Nat) (ds : List RE.D) : (RE.callF T FU (k + 1)).f 30 ds = RE.callV (RE.callF T FU k) FU l_law_like ds := by rw [← e30]; rfl
def l_law_floor_b1 : RE.Ss := RE.Ss.cons (RE.S.appF 8 (RE.F.op RE.FOp.rep (RE.Ps.cons (RE.P.new (RE.F.lst (RE.Ps.cons (RE.P.con (RE.D.str [46])) RE.Ps.nil))) (RE.Ps.cons (RE.P.bvar 7) RE.Ps.nil)))) RE.Ss.nil
def l_law_floor_b2 : RE.Ss := RE.Ss.cons (RE.S.par [(RE.Tgt.name 4, RE.Rhs.val (RE.M.io 28 0 (RE.Ms.cons (RE.M.pur (RE.P.var 6)) RE.Ms.nil))), (RE.Tgt.name 10, RE.Rhs.val (RE.M.io 28 0 (RE.Ms.cons (RE.M.pur (RE.P.var 7)) RE.Ms.nil)))]) (RE.Ss.cons (RE.S.asg (RE.Tgt.sub2 8 (RE.P.var 4) (RE.P.var 10)) (RE.M.pur (RE.P.con (RE.D.str [35])))) RE.Ss.nil)
def l_law_floor_r2 : RE.Ms := RE.Ms.cons (RE.M.ite (RE.P.op RE.Op.gt (RE.Ps.cons (RE.P.bvar 9) (RE.Ps.cons (RE.P.con (RE.D.int 0)) RE.Ps.nil))) (RE.M.io 28 0 (RE.Ms.cons (RE.M.pur (RE.P.op RE.Op.add (RE.Ps.cons (RE.P.bvar 3) (RE.Ps.cons (RE.P.con (RE.D.int 1)) RE.Ps.nil)))) RE.Ms.nil)) (RE.M.pur (RE.P.con (RE.D.int 0)))) RE.Ms.nil
def l_law_floor_x1 : RE.P := RE.P.op RE.Op.join (RE.Ps.cons (RE.P.con (RE.D.str [])) (RE.Ps.cons (RE.P.bvar 11) RE.Ps.nil))
def l_law_floor : RE.Fn := RE.Fn.mk 4 12 true none (RE.Ss.cons (RE.S.par [(RE.Tgt.name 6, RE.Rhs.val (RE.M.op RE.Op.add (RE.Ms.cons (RE.M.pur (RE.P.con (RE.D.int 1))) (RE.Ms.cons (RE.M.io 28 0 (RE.Ms.cons (RE.M.pur (RE.P.var 1)) RE.Ms.nil)) RE.Ms.nil)))), (RE.Tgt.name 7, RE.Rhs.val (RE.M.op RE.Op.add (RE.Ms.cons (RE.M.pur (RE.P.con (RE.D.int 1))) (RE.Ms.cons (RE.M.io 28 0 (RE.Ms.cons (RE.M.pur (RE.P.var 2)) RE.Ms.nil)) RE.Ms.nil))))]) (RE.Ss.cons (RE.S.par [(RE.Tgt.name 8, RE.Rhs.own (RE.F.lst RE.Ps.nil)), (RE.Tgt.name 9, RE.Rhs.val (RE.M.io 28 0 (RE.Ms.cons (RE.M.pur (RE.P.con (RE.D.int 3))) RE.Ms.nil)))]) (RE.Ss.cons (RE.S.for (RE.Tg.one 4) (RE.Src.pur (RE.It.rng (RE.Ps.cons (RE.P.var 6) RE.Ps.nil))) l_law_floor_b1) (RE.Ss.cons (RE.S.for (RE.Tg.one 5) (RE.Src.rng l_law_floor_r2) l_law_floor_b2) (RE.Ss.cons (RE.S.ite (RE.M.pur (RE.P.op RE.Op.eq (RE.Ps.cons (RE.P.bvar 9) (RE.Ps.cons (RE.P.con (RE.D.int 2)) RE.Ps.nil)))) (RE.Ss.cons (RE.S.par [(RE.Tgt.sub2 8 (RE.P.con (RE.D.int 0)) (RE.P.con (RE.D.int 0)), RE.Rhs.val (RE.M.pur (RE.P.con (RE.D.str [35])))), (RE.Tgt.sub2 8 (RE.P.op RE.Op.sub (RE.Ps.cons (RE.P.bvar 6) (RE.Ps.cons (RE.P.con (RE.D.int 1)) RE.Ps.nil))) (RE.P.op RE.Op.sub (RE.Ps.cons (RE.P.bvar 7) (RE.Ps.cons (RE.P.con (RE.D.int 1)) RE.Ps.nil))), RE.Rhs.val (RE.M.pur (RE.P.con (RE.D.str [35]))))]) RE.Ss.nil) RE.Ss.nil) (RE.Ss.cons (RE.S.frz 8 (RE.S.ret (RE.M.pur (RE.P.op RE.Op.tuple (RE.Ps.cons (RE.P.new (RE.F.comp l_law_floor_x1 (RE.P.con (RE.D.bl true)) (RE.Tg.one 11) (RE.It.val (RE.P.bvar 8)) [11])) RE.Ps.nil))))) RE.Ss.nil))))))
theorem e31 : t31 = l_law_floor := by kernel_rfl
theorem c_law_floor (k : Nat) (xs ds : List RE.D) : (RE.callF T FU (k + 1)).io 31 xs ds = RE.callI (RE.callF T FU k) FU l_law_floor xs ds := by rw [← e31]; rfl
def l_law_squares_x1 : RE.P := RE.P.tup (RE.Ps.cons (RE.P.var 2) (RE.Ps.cons (RE.P.var 4) RE.Ps.nil))
def l_law_squares_y1 : RE.P := RE.P.op RE.Op.eq (RE.Ps.cons (RE.P.op RE.Op.idx (RE.Ps.cons (RE.P.bvar 3) (RE.Ps.cons (RE.P.bvar 4) RE.Ps.nil))) (RE.Ps.cons (RE.P.con (RE.D.str [46])) RE.Ps.nil))
def l_law_squares_b1 : RE.Ss := RE.Ss.cons (RE.S.set 1 (RE.Rhs.val (RE.M.pur (RE.P.op RE.Op.add (RE.Ps.cons (RE.P.bvar 1) (RE.Ps.cons (RE.P.new (RE.F.comp l_law_squares_x1 l_law_squares_y1 (RE.Tg.one 4) (RE.It.rng (RE.Ps.cons (RE.P.op RE.Op.len (RE.Ps.cons (RE.P.bvar 3) RE.Ps.nil)) RE.Ps.nil)) [4])) RE.Ps.nil)))))) RE.Ss.nil
def l_law_squares : RE.Fn := RE.Fn.mk 1 5 false none (RE.Ss.cons (RE.S.set 1 (RE.Rhs.val (RE.M.pur (RE.P.new (RE.F.lst RE.Ps.nil))))) (RE.Ss.cons (RE.S.for (RE.Tg.many [2, 3]) (RE.Src.pur (RE.It.enum (RE.P.var 0))) l_law_squares_b1) (RE.Ss.cons (RE.S.ret (RE.M.pur (RE.P.var 1))) RE.Ss.nil)))
theorem e32 : t32 = l_law_squares := by kernel_rfl
theorem c_law_squares (k : Nat) (ds : List RE.D) : (RE.callF T FU (k + 1)).f 32 ds = RE.callV (RE.callF T FU k) FU l_law_squares ds := by rw [← e32]; rfl
def l_law_words : RE.Fn := RE.Fn.mk 0 0 false none (RE.Ss.cons (RE.S.ret (RE.M.pur (RE.P.tup (RE.Ps.cons (RE.P.con (RE.D.str [98, 97, 99, 107])) (RE.Ps.cons (RE.P.con (RE.D.str [102, 108, 97, 116])) (RE.Ps.cons (RE.P.con (RE.D.str [104, 97, 108, 102])) (RE.Ps.cons (RE.P.con (RE.D.str [113, 117, 97, 114, 116, 101, 114])) (RE.Ps.cons (RE.P.con (RE.D.str [115, 108, 97, 110, 116])) (RE.Ps.cons (RE.P.con (RE.D.str [115, 116, 97, 121])) (RE.Ps.cons (RE.P.con (RE.D.str [116, 104, 114, 101, 101, 113, 117, 97, 114, 116, 101, 114])) (RE.Ps.cons (RE.P.con (RE.D.str [117, 112, 114, 105, 103, 104, 116])) RE.Ps.nil))))))))))) RE.Ss.nil)
theorem e33 : t33 = l_law_words := by kernel_rfl
theorem c_law_words (k : Nat) (ds : List RE.D) : (RE.callF T FU (k + 1)).f 33 ds = RE.callV (RE.callF T FU k) FU l_law_words ds := by rw [← e33]; rfl
def l_law_goes_b1 : RE.Ss := RE.Ss.cons (RE.S.par [(RE.Tgt.name 7, RE.Rhs.val (RE.M.pur (RE.P.var 8))), (RE.Tgt.name 8, RE.Rhs.val (RE.M.pur (RE.P.op RE.Op.sub (RE.Ps.cons (RE.P.op RE.Op.sub (RE.Ps.cons (RE.P.bvar 9) (RE.Ps.cons (RE.P.con (RE.D.int 1)) RE.Ps.nil))) (RE.Ps.cons (RE.P.bvar 7) RE.Ps.nil))))), (RE.Tgt.name 9, RE.Rhs.val (RE.M.pur (RE.P.var 10))), (RE.Tgt.name 10, RE.Rhs.val (RE.M.pur (RE.P.var 9)))]) RE.Ss.nil
def l_law_goes : RE.Fn := RE.Fn.mk 4 11 false none (RE.Ss.cons (RE.S.unpack [7, 8] (RE.M.pur (RE.P.var 3))) (RE.Ss.cons (RE.S.set 4 (RE.Rhs.val (RE.M.pur (RE.P.op RE.Op.isin (RE.Ps.cons (RE.P.bvar 2) (RE.Ps.cons (RE.P.tup (RE.Ps.cons (RE.P.con (RE.D.str [102, 108, 97, 116])) (RE.Ps.cons (RE.P.con (RE.D.str [117, 112, 114, 105, 103, 104, 116])) (RE.Ps.cons (RE.P.con (RE.D.str [115, 108, 97, 110, 116])) (RE.Ps.cons (RE.P.con (RE.D.str [98, 97, 99, 107])) RE.Ps.nil))))) RE.Ps.nil)))))) (RE.Ss.cons (RE.S.set 5 (RE.Rhs.val (RE.M.pur (RE.P.op RE.Op.get2 (RE.Ps.cons (RE.P.dic (RE.Ps.cons (RE.P.con (RE.D.str [113, 117, 97, 114, 116, 101, 114])) (RE.Ps.cons (RE.P.con (RE.D.str [104, 97, 108, 102])) (RE.Ps.cons (RE.P.con (RE.D.str [116, 104, 114, 101, 101, 113, 117, 97, 114, 116, 101, 114])) (RE.Ps.cons (RE.P.con (RE.D.str [98, 97, 99, 107])) (RE.Ps.cons (RE.P.con (RE.D.str [117, 112, 114, 105, 103, 104, 116])) (RE.Ps.cons (RE.P.con (RE.D.str [115, 108, 97, 110, 116])) RE.Ps.nil)))))) (RE.Ps.cons (RE.P.con (RE.D.int 1)) (RE.Ps.cons (RE.P.con (RE.D.int 2)) (RE.Ps.cons (RE.P.con (RE.D.int 3)) (RE.Ps.cons (RE.P.con (RE.D.int 1)) (RE.Ps.cons (RE.P.con (RE.D.int 2)) (RE.Ps.cons (RE.P.con (RE.D.int 3)) RE.Ps.nil))))))) (RE.Ps.cons (RE.P.var 2) (RE.Ps.cons (RE.P.con (RE.D.int 0)) RE.Ps.nil))))))) (RE.Ss.cons (RE.S.ite (RE.M.pur (RE.P.bvar 4)) (RE.Ss.cons (RE.S.set 8 (RE.Rhs.val (RE.M.pur (RE.P.op RE.Op.sub (RE.Ps.cons (RE.P.op RE.Op.sub (RE.Ps.cons (RE.P.bvar 1) (RE.Ps.cons (RE.P.con (RE.D.int 1)) RE.Ps.nil))) (RE.Ps.cons (RE.P.bvar 8) RE.Ps.nil)))))) RE.Ss.nil) RE.Ss.nil) (RE.Ss.cons (RE.S.par [(RE.Tgt.name 9, RE.Rhs.val (RE.M.pur (RE.P.var 0))), (RE.Tgt.name 10, RE.Rhs.val (RE.M.pur (RE.P.var 1)))]) (RE.Ss.cons (RE.S.for (RE.Tg.one 6) (RE.Src.pur (RE.It.rng (RE.Ps.cons (RE.P.var 5) RE.Ps.nil))) l_law_goes_b1) (RE.Ss.cons (RE.S.ret (RE.M.pur (RE.P.tup (RE.Ps.cons (RE.P.var 7) (RE.Ps.cons (RE.P.var 8) RE.Ps.nil))))) RE.Ss.nil)))))))
theorem e34 : t34 = l_law_goes := by kernel_rfl
theorem c_law_goes (k : Nat) (ds : List RE.D) : (RE.callF T FU (k + 1)).f 34 ds = RE.callV (RE.callF T FU k) FU l_law_goes ds := by rw [← e34]; rfl
def l_law_turned_floor_b2 : RE.Ss := RE.Ss.cons (RE.S.asg (RE.Tgt.sub 5 (RE.P.call 34 (RE.Ps.cons (RE.P.var 3) (RE.Ps.cons (RE.P.var 4) (RE.Ps.cons (RE.P.var 1) (RE.Ps.cons (RE.P.tup (RE.Ps.cons (RE.P.var 2) (RE.Ps.cons (RE.P.var 6) RE.Ps.nil))) RE.Ps.nil)))))) (RE.M.pur (RE.P.op RE.Op.idx (RE.Ps.cons (RE.P.op RE.Op.idx (RE.Ps.cons (RE.P.bvar 0) (RE.Ps.cons (RE.P.bvar 2) RE.Ps.nil))) (RE.Ps.cons (RE.P.bvar 6) RE.Ps.nil))))) RE.Ss.nil
def l_law_turned_floor_b1 : RE.Ss := RE.Ss.cons (RE.S.for (RE.Tg.one 6) (RE.Src.pur (RE.It.rng (RE.Ps.cons (RE.P.var 4) RE.Ps.nil))) l_law_turned_floor_b2) RE.Ss.nil
def l_law_turned_floor_x2 : RE.P := RE.P.op RE.Op.idx (RE.Ps.cons (RE.P.bvar 5) (RE.Ps.cons (RE.P.tup (RE.Ps.cons (RE.P.var 2) (RE.Ps.cons (RE.P.var 6) RE.Ps.nil))) RE.Ps.nil))
def l_law_turned_floor_x1 : RE.P := RE.P.op RE.Op.join (RE.Ps.cons (RE.P.con (RE.D.str [])) (RE.Ps.cons (RE.P.new (RE.F.comp l_law_turned_floor_x2 (RE.P.con (RE.D.bl true)) (RE.Tg.one 6) (RE.It.rng (RE.Ps.cons (RE.P.var 8) RE.Ps.nil)) [6])) RE.Ps.nil))
def l_law_turned_floor : RE.Fn := RE.Fn.mk 2 9 false none (RE.Ss.cons (RE.S.par [(RE.Tgt.name 3, RE.Rhs.val (RE.M.pur (RE.P.op RE.Op.len (RE.Ps.cons (RE.P.bvar 0) RE.Ps.nil)))), (RE.Tgt.name 4, RE.Rhs.val (RE.M.pur (RE.P.op RE.Op.len (RE.Ps.cons (RE.P.op RE.Op.idx (RE.Ps.cons (RE.P.bvar 0) (RE.Ps.cons (RE.P.con (RE.D.int 0)) RE.Ps.nil))) RE.Ps.nil)))), (RE.Tgt.name 5, RE.Rhs.dic true)]) (RE.Ss.cons (RE.S.for (RE.Tg.one 2) (RE.Src.pur (RE.It.rng (RE.Ps.cons (RE.P.var 3) RE.Ps.nil))) l_law_turned_floor_b1) (RE.Ss.cons (RE.S.unpack [7, 8] (RE.M.pur (RE.P.ite (RE.P.op RE.Op.isin (RE.Ps.cons (RE.P.bvar 1) (RE.Ps.cons (RE.P.tup (RE.Ps.cons (RE.P.con (RE.D.str [98, 97, 99, 107])) (RE.Ps.cons (RE.P.con (RE.D.str [113, 117, 97, 114, 116, 101, 114])) (RE.Ps.cons (RE.P.con (RE.D.str [115, 108, 97, 110, 116])) (RE.Ps.cons (RE.P.con (RE.D.str [116, 104, 114, 101, 101, 113, 117, 97, 114, 116, 101, 114])) RE.Ps.nil))))) RE.Ps.nil))) (RE.P.tup (RE.Ps.cons (RE.P.var 4) (RE.Ps.cons (RE.P.var 3) RE.Ps.nil))) (RE.P.tup (RE.Ps.cons (RE.P.var 3) (RE.Ps.cons (RE.P.var 4) RE.Ps.nil)))))) (RE.Ss.cons (RE.S.ret (RE.M.pur (RE.P.op RE.Op.tuple (RE.Ps.cons (RE.P.new (RE.F.comp l_law_turned_floor_x1 (RE.P.con (RE.D.bl true)) (RE.Tg.one 2) (RE.It.rng (RE.Ps.cons (RE.P.var 7) RE.Ps.nil)) [2])) RE.Ps.nil)))) RE.Ss.nil))))
theorem e35 : t35 = l_law_turned_floor := by kernel_rfl
theorem c_law_turned_floor (k : Nat) (ds : List RE.D) : (RE.callF T FU (k + 1)).f 35 ds = RE.callV (RE.callF T FU k) FU l_law_turned_floor ds := by rw [← e35]; rfl
def l_law_own_words_x1 : RE.P := RE.P.var 1
def l_law_own_words_y1 : RE.P := RE.P.op RE.Op.eq (RE.Ps.cons (RE.P.call 35 (RE.Ps.cons (RE.P.var 0) (RE.Ps.cons (RE.P.var 1) RE.Ps.nil))) (RE.Ps.cons (RE.P.bvar 0) RE.Ps.nil))
def l_law_own_words : RE.Fn := RE.Fn.mk 1 2 false none (RE.Ss.cons (RE.S.ret (RE.M.pur (RE.P.new (RE.F.comp l_law_own_words_x1 l_law_own_words_y1 (RE.Tg.one 1) (RE.It.val (RE.P.call 33 RE.Ps.nil)) [1])))) RE.Ss.nil)
theorem e36 : t36 = l_law_own_words := by kernel_rfl
theorem c_law_own_words (k : Nat) (ds : List RE.D) : (RE.callF T FU (k + 1)).f 36 ds = RE.callV (RE.callF T FU k) FU l_law_own_words ds := by rw [← e36]; rfl
def l_law_even_floor_x1 : RE.P := RE.P.op RE.Op.add (RE.Ps.cons (RE.P.op (RE.Op.sl false true) (RE.Ps.cons (RE.P.bvar 8) (RE.Ps.cons (RE.P.op RE.Op.neg (RE.Ps.cons (RE.P.con (RE.D.int 1)) RE.Ps.nil)) RE.Ps.nil))) (RE.Ps.cons (RE.P.op RE.Op.rev (RE.Ps.cons (RE.P.bvar 8) RE.Ps.nil)) RE.Ps.nil))
def l_law_even_floor : RE.Fn := RE.Fn.mk 2 9 true none (RE.Ss.cons (RE.S.par [(RE.Tgt.name 3, RE.Rhs.val (RE.M.io 28 0 (RE.Ms.cons (RE.M.pur (RE.P.con (RE.D.int 4))) RE.Ms.nil))), (RE.Tgt.name 4, RE.Rhs.val (RE.M.op RE.Op.add (RE.Ms.cons (RE.M.pur (RE.P.con (RE.D.int 1))) (RE.Ms.cons (RE.M.io 28 0 (RE.Ms.cons (RE.M.pur (RE.P.var 1)) RE.Ms.nil)) RE.Ms.nil)))), (RE.Tgt.name 5, RE.Rhs.val (RE.M.io 28 0 (RE.Ms.cons (RE.M.pur (RE.P.con (RE.D.int 2))) RE.Ms.nil)))]) (RE.Ss.cons (RE.S.par [(RE.Tgt.name 6, RE.Rhs.val (RE.M.io 31 0 (RE.Ms.cons (RE.M.pur (RE.P.var 1)) (RE.Ms.cons (RE.M.pur (RE.P.var 1)) (RE.Ms.cons (RE.M.pur (RE.P.con (RE.D.int 3))) RE.Ms.nil))))), (RE.Tgt.name 7, RE.Rhs.val (RE.M.op RE.Op.add (RE.Ms.cons (RE.M.pur (RE.P.con (RE.D.int 1))) (RE.Ms.cons (RE.M.io 28 0 (RE.Ms.cons (RE.M.pur (RE.P.var 1)) RE.Ms.nil)) RE.Ms.nil))))]) (RE.Ss.cons (RE.S.ite (RE.M.pur (RE.P.op RE.Op.eq (RE.Ps.cons (RE.P.bvar 3) (RE.Ps.cons (RE.P.con (RE.D.int 0)) RE.Ps.nil)))) (RE.Ss.cons (RE.S.ret (RE.M.pur (RE.P.op RE.Op.mul (RE.Ps.cons (RE.P.tup (RE.Ps.cons (RE.P.op RE.Op.mul (RE.Ps.cons (RE.P.con (RE.D.str [46])) (RE.Ps.cons (RE.P.bvar 7) RE.Ps.nil))) RE.Ps.nil)) (RE.Ps.cons (RE.P.bvar 4) RE.Ps.nil))))) RE.Ss.nil) RE.Ss.nil) (RE.Ss.cons (RE.S.ite (RE.M.pur (RE.P.op RE.Op.eq (RE.Ps.cons (RE.P.bvar 3) (RE.Ps.cons (RE.P.con (RE.D.int 1)) RE.Ps.nil)))) (RE.Ss.cons (RE.S.ret (RE.M.pur (RE.P.var 6))) RE.Ss.nil) RE.Ss.nil) (RE.Ss.cons (RE.S.ite (RE.M.pur (RE.P.op RE.Op.eq (RE.Ps.cons (RE.P.bvar 3) (RE.Ps.cons (RE.P.con (RE.D.int 2)) RE.Ps.nil)))) (RE.Ss.cons (RE.S.ret (RE.M.pur (RE.P.op RE.Op.tuple (RE.Ps.cons (RE.P.new (RE.F.comp l_law_even_floor_x1 (RE.P.con (RE.D.bl true)) (RE.Tg.one 8) (RE.It.val (RE.P.bvar 6)) [8])) RE.Ps.nil)))) RE.Ss.nil) RE.Ss.nil) (RE.Ss.cons (RE.S.set 2 (RE.Rhs.val (RE.M.pur (RE.P.tup (RE.Ps.cons (RE.P.op RE.Op.add (RE.Ps.cons (RE.P.op RE.Op.add (RE.Ps.cons (RE.P.op RE.Op.mul (RE.Ps.cons (RE.P.con (RE.D.str [35])) (RE.Ps.cons (RE.P.bvar 5) RE.Ps.nil))) (RE.Ps.cons (RE.P.op RE.Op.mul (RE.Ps.cons (RE.P.con (RE.D.str [46])) (RE.Ps.cons (RE.P.bvar 7) RE.Ps.nil))) RE.Ps.nil))) (RE.Ps.cons (RE.P.op RE.Op.mul (RE.Ps.cons (RE.P.con (RE.D.str [35])) (RE.Ps.cons (RE.P.bvar 5) RE.Ps.nil))) RE.Ps.nil))) RE.Ps.nil))))) (RE.Ss.cons (RE.S.ret (RE.M.pur (RE.P.op RE.Op.add (RE.Ps.cons (RE.P.op RE.Op.add (RE.Ps.cons (RE.P.bvar 2) (RE.Ps.cons (RE.P.op RE.Op.mul (RE.Ps.cons (RE.P.tup (RE.Ps.cons (RE.P.op RE.Op.mul (RE.Ps.cons (RE.P.con (RE.D.str [46])) (RE.Ps.cons (RE.P.op RE.Op.add (RE.Ps.cons (RE.P.bvar 7) (RE.Ps.cons (RE.P.op RE.Op.mul (RE.Ps.cons (RE.P.con (RE.D.int 2)) (RE.Ps.cons (RE.P.bvar 5) RE.Ps.nil))) RE.Ps.nil))) RE.Ps.nil))) RE.Ps.nil)) (RE.Ps.cons (RE.P.bvar 4) RE.Ps.nil))) RE.Ps.nil))) (RE.Ps.cons (RE.P.bvar 2) RE.Ps.nil))))) RE.Ss.nil)))))))
theorem e37 : t37 = l_law_even_floor := by kernel_rfl
theorem c_law_even_floor (k : Nat) (xs ds : List RE.D) : (RE.callF T FU (k + 1)).io 37 xs ds = RE.callI (RE.callF T FU k) FU l_law_even_floor xs ds := by rw [← e37]; rfl
def l_law_right_x1 : RE.P := RE.P.call 23 (RE.Ps.cons (RE.P.var 0) (RE.Ps.cons (RE.P.var 1) (RE.Ps.cons (RE.P.var 6) RE.Ps.nil)))
def l_law_right_x2 : RE.P := RE.P.call 34 (RE.Ps.cons (RE.P.var 2) (RE.Ps.cons (RE.P.var 3) (RE.Ps.cons (RE.P.var 1) (RE.Ps.cons (RE.P.var 6) RE.Ps.nil))))
def l_law_right_b1 : RE.Ss := RE.Ss.cons (RE.S.set 4 (RE.Rhs.val (RE.M.pur (RE.P.call 35 (RE.Ps.cons (RE.P.var 0) (RE.Ps.cons (RE.P.var 1) RE.Ps.nil)))))) (RE.Ss.cons (RE.S.ite (RE.M.pur (RE.P.not (RE.P.call 30 (RE.Ps.cons (RE.P.call 22 (RE.Ps.cons (RE.P.var 0) (RE.Ps.cons (RE.P.var 1) RE.Ps.nil))) (RE.Ps.cons (RE.P.var 4) RE.Ps.nil))))) (RE.Ss.cons (RE.S.ret (RE.M.pur (RE.P.con (RE.D.bl false)))) RE.Ss.nil) RE.Ss.nil) (RE.Ss.cons (RE.S.set 5 (RE.Rhs.val (RE.M.pur (RE.P.new (RE.F.comp l_law_right_x1 (RE.P.con (RE.D.bl true)) (RE.Tg.one 6) (RE.It.val (RE.P.call 32 (RE.Ps.cons (RE.P.var 0) RE.Ps.nil))) [6]))))) (RE.Ss.cons (RE.S.ite (RE.M.pur (RE.P.not (RE.P.call 30 (RE.Ps.cons (RE.P.var 5) (RE.Ps.cons (RE.P.new (RE.F.comp l_law_right_x2 (RE.P.con (RE.D.bl true)) (RE.Tg.one 6) (RE.It.val (RE.P.call 32 (RE.Ps.cons (RE.P.var 0) RE.Ps.nil))) [6])) RE.Ps.nil))))) (RE.Ss.cons (RE.S.ret (RE.M.pur (RE.P.con (RE.D.bl false)))) RE.Ss.nil) RE.Ss.nil) (RE.Ss.cons (RE.S.ite (RE.M.pur (RE.P.not (RE.P.call 30 (RE.Ps.cons (RE.P.new (RE.F.lst (RE.Ps.cons (RE.P.call 12 (RE.Ps.cons (RE.P.var 4) RE.Ps.nil)) (RE.Ps.cons (RE.P.call 22 (RE.Ps.cons (RE.P.var 4) (RE.Ps.cons (RE.P.call 26 (RE.Ps.cons (RE.P.var 1) RE.Ps.nil)) RE.Ps.nil))) RE.Ps.nil)))) (RE.Ps.cons (RE.P.new (RE.F.lst (RE.Ps.cons (RE.P.op RE.Op.tuple (RE.Ps.cons (RE.P.new (RE.F.op RE.FOp.sorted (RE.Ps.cons (RE.P.bvar 5) RE.Ps.nil))) RE.Ps.nil)) (RE.Ps.cons (RE.P.var 0) RE.Ps.nil)))) RE.Ps.nil))))) (RE.Ss.cons (RE.S.ret (RE.M.pur (RE.P.con (RE.D.bl false)))) RE.Ss.nil) RE.Ss.nil) RE.Ss.nil))))
def l_law_right : RE.Fn := RE.Fn.mk 1 7 false none (RE.Ss.cons (RE.S.par [(RE.Tgt.name 2, RE.Rhs.val (RE.M.pur (RE.P.op RE.Op.len (RE.Ps.cons (RE.P.bvar 0) RE.Ps.nil)))), (RE.Tgt.name 3, RE.Rhs.val (RE.M.pur (RE.P.op RE.Op.len (RE.Ps.cons (RE.P.op RE.Op.idx (RE.Ps.cons (RE.P.bvar 0) (RE.Ps.cons (RE.P.con (RE.D.int 0)) RE.Ps.nil))) RE.Ps.nil))))]) (RE.Ss.cons (RE.S.for (RE.Tg.one 1) (RE.Src.pur (RE.It.val (RE.P.call 33 RE.Ps.nil))) l_law_right_b1) (RE.Ss.cons (RE.S.ite (RE.M.pur (RE.P.not (RE.P.call 30 (RE.Ps.cons (RE.P.new (RE.F.lst (RE.Ps.cons (RE.P.call 22 (RE.Ps.cons (RE.P.var 0) (RE.Ps.cons (RE.P.con (RE.D.str [113, 117, 97, 114, 116, 101, 114])) RE.Ps.nil))) (RE.Ps.cons (RE.P.call 22 (RE.Ps.cons (RE.P.var 0) (RE.Ps.cons (RE.P.con (RE.D.str [102, 108, 97, 116])) RE.Ps.nil))) RE.Ps.nil)))) (RE.Ps.cons (RE.P.new (RE.F.lst (RE.Ps.cons (RE.P.call 13 (RE.Ps.cons (RE.P.var 0) RE.Ps.nil)) (RE.Ps.cons (RE.P.call 14 (RE.Ps.cons (RE.P.var 0) RE.Ps.nil)) RE.Ps.nil)))) RE.Ps.nil))))) (RE.Ss.cons (RE.S.ret (RE.M.pur (RE.P.con (RE.D.bl false)))) RE.Ss.nil) RE.Ss.nil) (RE.Ss.cons (RE.S.ret (RE.M.pur (RE.P.call 30 (RE.Ps.cons (RE.P.call 24 (RE.Ps.cons (RE.P.var 0) RE.Ps.nil)) (RE.Ps.cons (RE.P.op RE.Op.tuple (RE.Ps.cons (RE.P.call 36 (RE.Ps.cons (RE.P.var 0) RE.Ps.nil)) RE.Ps.nil)) RE.Ps.nil))))) RE.Ss.nil))))
theorem e38 : t38 = l_law_right := by kernel_rfl
theorem c_law_right (k : Nat) (ds : List RE.D) : (RE.callF T FU (k + 1)).f 38 ds = RE.callV (RE.callF T FU k) FU l_law_right ds := by rw [← e38]; rfl
def l_law_behind_right_b3 : RE.Ss := RE.Ss.cons (RE.S.set 5 (RE.Rhs.val (RE.M.pur (RE.P.call 35 (RE.Ps.cons (RE.P.var 0) (RE.Ps.cons (RE.P.var 1) RE.Ps.nil)))))) (RE.Ss.cons (RE.S.ite (RE.M.pur (RE.P.op RE.Op.ne (RE.Ps.cons (RE.P.call 23 (RE.Ps.cons (RE.P.var 5) (RE.Ps.cons (RE.P.var 2) (RE.Ps.cons (RE.P.call 23 (RE.Ps.cons (RE.P.var 0) (RE.Ps.cons (RE.P.var 1) (RE.Ps.cons (RE.P.var 4) RE.Ps.nil)))) RE.Ps.nil)))) (RE.Ps.cons (RE.P.call 23 (RE.Ps.cons (RE.P.var 0) (RE.Ps.cons (RE.P.var 3) (RE.Ps.cons (RE.P.var 4) RE.Ps.nil)))) RE.Ps.nil)))) (RE.Ss.cons (RE.S.ret (RE.M.pur (RE.P.con (RE.D.bl false)))) RE.Ss.nil) RE.Ss.nil) RE.Ss.nil)
def l_law_behind_right_b2 : RE.Ss := RE.Ss.cons (RE.S.set 3 (RE.Rhs.val (RE.M.pur (RE.P.call 25 (RE.Ps.cons (RE.P.var 1) (RE.Ps.cons (RE.P.var 2) RE.Ps.nil)))))) (RE.Ss.cons (RE.S.ite (RE.M.pur (RE.P.or (RE.P.op RE.Op.notin (RE.Ps.cons (RE.P.bvar 3) (RE.Ps.cons (RE.P.call 33 RE.Ps.nil) RE.Ps.nil))) (RE.P.op RE.Op.ne (RE.Ps.cons (RE.P.call 22 (RE.Ps.cons (RE.P.call 22 (RE.Ps.cons (RE.P.var 0) (RE.Ps.cons (RE.P.var 1) RE.Ps.nil))) (RE.Ps.cons (RE.P.var 2) RE.Ps.nil))) (RE.Ps.cons (RE.P.call 22 (RE.Ps.cons (RE.P.var 0) (RE.Ps.cons (RE.P.var 3) RE.Ps.nil))) RE.Ps.nil))))) (RE.Ss.cons (RE.S.ret (RE.M.pur (RE.P.con (RE.D.bl false)))) RE.Ss.nil) RE.Ss.nil) (RE.Ss.cons (RE.S.for (RE.Tg.one 4) (RE.Src.pur (RE.It.val (RE.P.op (RE.Op.sl false true) (RE.Ps.cons (RE.P.call 32 (RE.Ps.cons (RE.P.var 0) RE.Ps.nil)) (RE.Ps.cons (RE.P.con (RE.D.int 3)) RE.Ps.nil))))) l_law_behind_right_b3) RE.Ss.nil))
def l_law_behind_right_b1 : RE.Ss := RE.Ss.cons (RE.S.for (RE.Tg.one 2) (RE.Src.pur (RE.It.val (RE.P.call 33 RE.Ps.nil))) l_law_behind_right_b2) RE.Ss.nil
def l_law_behind_right : RE.Fn := RE.Fn.mk 1 6 false none (RE.Ss.cons (RE.S.for (RE.Tg.one 1) (RE.Src.pur (RE.It.val (RE.P.call 33 RE.Ps.nil))) l_law_behind_right_b1) (RE.Ss.cons (RE.S.ret (RE.M.pur (RE.P.con (RE.D.bl true)))) RE.Ss.nil))
theorem e39 : t39 = l_law_behind_right := by kernel_rfl
theorem c_law_behind_right (k : Nat) (ds : List RE.D) : (RE.callF T FU (k + 1)).f 39 ds = RE.callV (RE.callF T FU k) FU l_law_behind_right ds := by rw [← e39]; rfl
def l_law_x1 : RE.P := RE.P.call 25 (RE.Ps.cons (RE.P.var 5) (RE.Ps.cons (RE.P.var 9) RE.Ps.nil))
def l_law_x2 : RE.P := RE.P.call 25 (RE.Ps.cons (RE.P.var 9) (RE.Ps.cons (RE.P.var 5) RE.Ps.nil))
def l_law_b1 : RE.Ss := RE.Ss.cons (RE.S.par [(RE.Tgt.name 7, RE.Rhs.val (RE.M.pur (RE.P.new (RE.F.comp l_law_x1 (RE.P.con (RE.D.bl true)) (RE.Tg.one 9) (RE.It.val (RE.P.bvar 4)) [9])))), (RE.Tgt.name 8, RE.Rhs.val (RE.M.pur (RE.P.new (RE.F.comp l_law_x2 (RE.P.con (RE.D.bl true)) (RE.Tg.one 9) (RE.It.val (RE.P.bvar 4)) [9]))))]) (RE.Ss.cons (RE.S.ite (RE.M.pur (RE.P.or (RE.P.op RE.Op.ne (RE.Ps.cons (RE.P.new (RE.F.op RE.FOp.sorted (RE.Ps.cons (RE.P.bvar 7) RE.Ps.nil))) (RE.Ps.cons (RE.P.new (RE.F.op RE.FOp.list (RE.Ps.cons (RE.P.bvar 4) RE.Ps.nil))) RE.Ps.nil))) (RE.P.or (RE.P.op RE.Op.ne (RE.Ps.cons (RE.P.new (RE.F.op RE.FOp.sorted (RE.Ps.cons (RE.P.bvar 8) RE.Ps.nil))) (RE.Ps.cons (RE.P.new (RE.F.op RE.FOp.list (RE.Ps.cons (RE.P.bvar 4) RE.Ps.nil))) RE.Ps.nil))) (RE.P.or (RE.P.op RE.Op.ne (RE.Ps.cons (RE.P.call 25 (RE.Ps.cons (RE.P.var 5) (RE.Ps.cons (RE.P.call 26 (RE.Ps.cons (RE.P.var 5) RE.Ps.nil)) RE.Ps.nil))) (RE.Ps.cons (RE.P.con (RE.D.str [115, 116, 97, 121])) RE.Ps.nil))) (RE.P.op RE.Op.ne (RE.Ps.cons (RE.P.call 25 (RE.Ps.cons (RE.P.con (RE.D.str [115, 116, 97, 121])) (RE.Ps.cons (RE.P.var 5) RE.Ps.nil))) (RE.Ps.cons (RE.P.bvar 5) RE.Ps.nil))))))) (RE.Ss.cons (RE.S.ret (RE.M.pur (RE.P.con (RE.D.bl false)))) RE.Ss.nil) RE.Ss.nil) RE.Ss.nil)
def l_law_b2 : RE.Ss := RE.Ss.cons (RE.S.ite (RE.M.not (RE.M.call 38 (RE.Ms.cons (RE.M.io 37 1 (RE.Ms.cons (RE.M.pur (RE.P.var 6)) RE.Ms.nil)) RE.Ms.nil))) (RE.Ss.cons (RE.S.ret (RE.M.pur (RE.P.con (RE.D.bl false)))) RE.Ss.nil) RE.Ss.nil) RE.Ss.nil
def l_law : RE.Fn := RE.Fn.mk 1 10 false none (RE.Ss.cons (RE.S.set 1 (RE.Rhs.own (RE.F.call 27 (RE.Ps.cons (RE.P.var 0) RE.Ps.nil)))) (RE.Ss.cons (RE.S.set 2 (RE.Rhs.val (RE.M.pur (RE.P.tup (RE.Ps.cons (RE.P.con (RE.D.str [46, 46, 46])) (RE.Ps.cons (RE.P.con (RE.D.str [46, 46, 46])) RE.Ps.nil)))))) (RE.Ss.cons (RE.S.set 3 (RE.Rhs.own (RE.F.lst (RE.Ps.cons (RE.P.call 22 (RE.Ps.cons (RE.P.tup (RE.Ps.cons (RE.P.con (RE.D.str [46, 46])) (RE.Ps.cons (RE.P.con (RE.D.str [46, 35])) (RE.Ps.cons (RE.P.con (RE.D.str [35, 35])) RE.Ps.nil)))) (RE.Ps.cons (RE.P.con (RE.D.str [113, 117, 97, 114, 116, 101, 114])) RE.Ps.nil))) (RE.Ps.cons (RE.P.call 22 (RE.Ps.cons (RE.P.tup (RE.Ps.cons (RE.P.con (RE.D.str [46, 46, 35])) RE.Ps.nil)) (RE.Ps.cons (RE.P.con (RE.D.str [115, 108, 97, 110, 116])) RE.Ps.nil))) (RE.Ps.cons (RE.P.call 23 (RE.Ps.cons (RE.P.var 2) (RE.Ps.cons (RE.P.con (RE.D.str [113, 117, 97, 114, 116, 101, 114])) (RE.Ps.cons (RE.P.tup (RE.Ps.cons (RE.P.con (RE.D.int 0)) (RE.Ps.cons (RE.P.con (RE.D.int 0)) RE.Ps.nil))) RE.Ps.nil)))) RE.Ps.nil)))))) (RE.Ss.cons (RE.S.app 3 (RE.M.pur (RE.P.call 23 (RE.Ps.cons (RE.P.var 2) (RE.Ps.cons (RE.P.con (RE.D.str [98, 97, 99, 107])) (RE.Ps.cons (RE.P.tup (RE.Ps.cons (RE.P.con (RE.D.int 0)) (RE.Ps.cons (RE.P.con (RE.D.int 0)) RE.Ps.nil))) RE.Ps.nil)))))) (RE.Ss.cons (RE.S.frz 3 (RE.S.ite (RE.M.pur (RE.P.not (RE.P.call 30 (RE.Ps.cons (RE.P.var 3) (RE.Ps.cons (RE.P.new (RE.F.lst (RE.Ps.cons (RE.P.tup (RE.Ps.cons (RE.P.con (RE.D.str [35, 46, 46])) (RE.Ps.cons (RE.P.con (RE.D.str [35, 35, 46])) RE.Ps.nil))) (RE.Ps.cons (RE.P.tup (RE.Ps.cons (RE.P.con (RE.D.str [46])) (RE.Ps.cons (RE.P.con (RE.D.str [46])) (RE.Ps.cons (RE.P.con (RE.D.str [35])) RE.Ps.nil)))) (RE.Ps.cons (RE.P.tup (RE.Ps.cons (RE.P.con (RE.D.int 0)) (RE.Ps.cons (RE.P.con (RE.D.int 1)) RE.Ps.nil))) (RE.Ps.cons (RE.P.tup (RE.Ps.cons (RE.P.con (RE.D.int 2)) (RE.Ps.cons (RE.P.con (RE.D.int 1)) RE.Ps.nil))) RE.Ps.nil)))))) RE.Ps.nil))))) (RE.Ss.cons (RE.S.ret (RE.M.pur (RE.P.con (RE.D.bl false)))) RE.Ss.nil) RE.Ss.nil)) (RE.Ss.cons (RE.S.set 3 (RE.Rhs.own (RE.F.lst (RE.Ps.cons (RE.P.call 24 (RE.Ps.cons (RE.P.var 2) RE.Ps.nil)) (RE.Ps.cons (RE.P.op RE.Op.len (RE.Ps.cons (RE.P.call 24 (RE.Ps.cons (RE.P.tup (RE.Ps.cons (RE.P.con (RE.D.str [46, 46])) (RE.Ps.cons (RE.P.con (RE.D.str [46, 46])) RE.Ps.nil))) RE.Ps.nil)) RE.Ps.nil)) (RE.Ps.cons (RE.P.call 24 (RE.Ps.cons (RE.P.tup (RE.Ps.cons (RE.P.con (RE.D.str [46, 46])) (RE.Ps.cons (RE.P.con (RE.D.str [46, 35])) RE.Ps.nil))) RE.Ps.nil)) (RE.Ps.cons (RE.P.call 25 (RE.Ps.cons (RE.P.con (RE.D.str [113, 117, 97, 114, 116, 101, 114])) (RE.Ps.cons (RE.P.con (RE.D.str [113, 117, 97, 114, 116, 101, 114])) RE.Ps.nil))) (RE.Ps.cons (RE.P.call 25 (RE.Ps.cons (RE.P.con (RE.D.str [102, 108, 97, 116])) (RE.Ps.cons (RE.P.con (RE.D.str [113, 117, 97, 114, 116, 101, 114])) RE.Ps.nil))) RE.Ps.nil)))))))) (RE.Ss.cons (RE.S.frz 3 (RE.S.ite (RE.M.pur (RE.P.not (RE.P.call 30 (RE.Ps.cons (RE.P.var 3) (RE.Ps.cons (RE.P.new (RE.F.lst (RE.Ps.cons (RE.P.tup (RE.Ps.cons (RE.P.con (RE.D.str [102, 108, 97, 116])) (RE.Ps.cons (RE.P.con (RE.D.str [104, 97, 108, 102])) (RE.Ps.cons (RE.P.con (RE.D.str [115, 116, 97, 121])) (RE.Ps.cons (RE.P.con (RE.D.str [117, 112, 114, 105, 103, 104, 116])) RE.Ps.nil))))) (RE.Ps.cons (RE.P.con (RE.D.int 8)) (RE.Ps.cons (RE.P.tup (RE.Ps.cons (RE.P.con (RE.D.str [115, 108, 97, 110, 116])) (RE.Ps.cons (RE.P.con (RE.D.str [115, 116, 97, 121])) RE.Ps.nil))) (RE.Ps.cons (RE.P.con (RE.D.str [104, 97, 108, 102])) (RE.Ps.cons (RE.P.con (RE.D.str [98, 97, 99, 107])) RE.Ps.nil))))))) RE.Ps.nil))))) (RE.Ss.cons (RE.S.ret (RE.M.pur (RE.P.con (RE.D.bl false)))) RE.Ss.nil) RE.Ss.nil)) (RE.Ss.cons (RE.S.set 4 (RE.Rhs.val (RE.M.pur (RE.P.call 33 RE.Ps.nil)))) (RE.Ss.cons (RE.S.for (RE.Tg.one 5) (RE.Src.pur (RE.It.val (RE.P.var 4))) l_law_b1) (RE.Ss.cons (RE.S.set 3 (RE.Rhs.own (RE.F.lst (RE.Ps.cons (RE.P.call 26 (RE.Ps.cons (RE.P.con (RE.D.str [113, 117, 97, 114, 116, 101, 114])) RE.Ps.nil)) (RE.Ps.cons (RE.P.call 26 (RE.Ps.cons (RE.P.con (RE.D.str [115, 108, 97, 110, 116])) RE.Ps.nil)) (RE.Ps.cons (RE.P.call 25 (RE.Ps.cons (RE.P.con (RE.D.str [115, 108, 97, 110, 116])) (RE.Ps.cons (RE.P.con (RE.D.str [102, 108, 97, 116])) RE.Ps.nil))) (RE.Ps.cons (RE.P.call 25 (RE.Ps.cons (RE.P.con (RE.D.str [102, 108, 97, 116])) (RE.Ps.cons (RE.P.con (RE.D.str [115, 108, 97, 110, 116])) RE.Ps.nil))) (RE.Ps.cons (RE.P.call 25 (RE.Ps.cons (RE.P.con (RE.D.str [104, 97, 108, 102])) (RE.Ps.cons (RE.P.con (RE.D.str [115, 108, 97, 110, 116])) RE.Ps.nil))) RE.Ps.nil)))))))) (RE.Ss.cons (RE.S.frz 3 (RE.S.ite (RE.M.pur (RE.P.not (RE.P.call 30 (RE.Ps.cons (RE.P.var 3) (RE.Ps.cons (RE.P.new (RE.F.lst (RE.Ps.cons (RE.P.con (RE.D.str [116, 104, 114, 101, 101, 113, 117, 97, 114, 116, 101, 114])) (RE.Ps.cons (RE.P.con (RE.D.str [115, 108, 97, 110, 116])) (RE.Ps.cons (RE.P.con (RE.D.str [113, 117, 97, 114, 116, 101, 114])) (RE.Ps.cons (RE.P.con (RE.D.str [116, 104, 114, 101, 101, 113, 117, 97, 114, 116, 101, 114])) (RE.Ps.cons (RE.P.con (RE.D.str [98, 97, 99, 107])) RE.Ps.nil))))))) RE.Ps.nil))))) (RE.Ss.cons (RE.S.ret (RE.M.pur (RE.P.con (RE.D.bl false)))) RE.Ss.nil) RE.Ss.nil)) (RE.Ss.cons (RE.S.for (RE.Tg.one 6) (RE.Src.pur (RE.It.val (RE.P.tup (RE.Ps.cons (RE.P.con (RE.D.int 2)) (RE.Ps.cons (RE.P.con (RE.D.int 4)) (RE.Ps.cons (RE.P.con (RE.D.int 6)) (RE.Ps.cons (RE.P.con (RE.D.int 6)) RE.Ps.nil))))))) l_law_b2) (RE.Ss.cons (RE.S.ite (RE.M.or (RE.M.not (RE.M.call 38 (RE.Ms.cons (RE.M.io 31 1 (RE.Ms.cons (RE.M.pur (RE.P.con (RE.D.int 12))) (RE.Ms.cons (RE.M.pur (RE.P.con (RE.D.int 12))) (RE.Ms.cons (RE.M.pur (RE.P.con (RE.D.int 9))) RE.Ms.nil)))) RE.Ms.nil))) (RE.M.or (RE.M.not (RE.M.call 39 (RE.Ms.cons (RE.M.io 31 1 (RE.Ms.cons (RE.M.pur (RE.P.con (RE.D.int 4))) (RE.Ms.cons (RE.M.pur (RE.P.con (RE.D.int 5))) (RE.Ms.cons (RE.M.pur (RE.P.con (RE.D.int 4))) RE.Ms.nil)))) RE.Ms.nil))) (RE.M.pur (RE.P.not (RE.P.call 39 (RE.Ps.cons (RE.P.tup (RE.Ps.cons (RE.P.con (RE.D.str [46, 46, 35])) (RE.Ps.cons (RE.P.con (RE.D.str [46, 46, 46])) RE.Ps.nil))) RE.Ps.nil)))))) (RE.Ss.cons (RE.S.ret (RE.M.pur (RE.P.con (RE.D.bl false)))) RE.Ss.nil) RE.Ss.nil) (RE.Ss.cons (RE.S.ret (RE.M.pur (RE.P.con (RE.D.bl true)))) RE.Ss.nil))))))))))))))
theorem e40 : t40 = l_law := by kernel_rfl
theorem c_law (k : Nat) (ds : List RE.D) : (RE.callF T FU (k + 1)).f 40 ds = RE.callV (RE.callF T FU k) FU l_law ds := by rw [← e40]; rfl
def TL : List RE.Fn := [l_is_integer, l_is_whole, l_is_tuple_of, l_is_word, l_fits_floor, l_need_floor, l_is_place, l_squares_in, l_is_square, l_need_square, l_turned_in, l_mirrored_in, l_squares_of, l_floor_turned, l_floor_mirrored, l_goes_to, l_sides_by, l_floor_by, l_own_words_in, l_behind_in, l_against_in, l_need_turn_word, l_floor_by_word, l_square_by_word, l_own_words, l_word_behind, l_word_against, l_law_cup, l_law_roll, l_law_sort, l_law_like, l_law_floor, l_law_squares, l_law_words, l_law_goes, l_law_turned_floor, l_law_own_words, l_law_even_floor, l_law_right, l_law_behind_right, l_law]
theorem T_eq : T = TL := by
  unfold T TL
  rw [e0, e1, e2, e3, e4, e5, e6, e7, e8, e9, e10, e11, e12, e13, e14, e15, e16, e17, e18, e19, e20, e21, e22, e23, e24, e25, e26, e27, e28, e29, e30, e31, e32, e33, e34, e35, e36, e37, e38, e39, e40]
end Lw
end

section
set_option linter.all false
set_option maxRecDepth 100000
set_option maxHeartbeats 4000000
set_option autoImplicit false
/-! WB1: floors. -/
namespace Lw
open RE
open L2 (atI ixN)
local macro_rules
  | `(tactic| simp_arith [$xs,*]) => `(tactic| simp (disch := first | assumption | omega | decide | (simp; done) | (simp <;> omega) | fail) only [RE.E_con, RE.E_var, RE.E_bvar, RE.E_tup, RE.E_new, RE.E_op, RE.E_and, RE.E_or, RE.E_not, RE.E_ite, RE.E_chain, RE.E_call, RE.E_dic, RE.E_nil, RE.E_cons, RE.E_lst, RE.E_fop, RE.E_fcall, RE.E_comp, RE.E_ival, RE.E_irng, RE.E_ienum, RE.E_izip, RE.E_pur, RE.E_mop, RE.E_mtup, RE.E_mlst, RE.E_mite, RE.E_mnot, RE.E_mand, RE.E_mor, RE.E_mcall, RE.E_io, RE.E_pop, RE.E_popAt, RE.E_mnil, RE.E_mcons, RE.E_rval, RE.E_rown, RE.E_rdic, RE.E_rsnil, RE.E_rscons, RE.E_sname, RE.E_ssub, RE.E_ssub2, RE.E_ssnil, RE.E_sscons, RE.E_pass, RE.E_brk, RE.E_cnt, RE.E_retN, RE.E_frz, RE.E_ret, RE.E_expr, RE.E_set, RE.E_setLL, RE.E_unpack, RE.E_par, RE.E_asg, RE.E_app, RE.E_appF, RE.E_site, RE.E_whl, RE.E_forp, RE.E_forr, RE.E_raise, RE.E_snil, RE.E_scons, RE.K_nx, RE.K_rt, RE.K_bk, RE.K_ct, RE.K_var, RE.K_l1, RE.K_l2, RE.K_l3, RE.K_l4, RE.K_l5, RE.K_ift, RE.K_iff, RE.K_ct1, RE.K_ct2, RE.K_io, RE.K_pop, RE.K_frz, RE.K_frz1, RE.K_fl, RE.K_fll, RE.K_fd, RE.K_ioE, RE.K_frE, RE.K_own, RE.K_ownL, RE.K_ownLL, RE.K_rs, RE.K_rn, RE.K_so1, RE.K_so2, RE.K_b1, RE.K_bm, RE.K_s0, RE.K_s1, RE.K_w0, RE.K_w1, RE.K_o1, RE.K_app, RE.K_appF0, RE.K_appF, RE.C_v, RE.C_i, RE.C_r, RE.K_bok, RE.K_bexc, RE.K_bbad, RE.K_chkt, RE.K_chkf, RE.K_assoc, RE.K_cast, RE.K_setS, RE.O_and1, RE.O_int, RE.O_non, RE.O_lst, RE.O_tup, RE.O_add, RE.O_sub, RE.O_adl, RE.O_adt, RE.O_ads, RE.O_mul, RE.O_fdiv, RE.O_mod, RE.O_neg, RE.O_abs, RE.O_toint, RE.O_lt, RE.O_le, RE.O_gt, RE.O_ge, RE.O_eq, RE.O_ne, RE.O_in, RE.O_notin, RE.O_isN, RE.O_isntN, RE.O_idx, RE.O_get2, RE.O_lenl, RE.O_lent, RE.O_lend, RE.O_lens, RE.O_tuple1, RE.O_tuple2, RE.O_isi, RE.O_join, RE.O_revt, RE.O_revl, RE.O_revs, RE.O_max2, RE.O_min2, RE.O_iI, RE.O_iB, RE.O_iS, RE.O_iT, RE.O_iL, RE.O_iN, RE.O_isNn, RE.O_isNi, RE.O_isNb, RE.O_isNs, RE.O_isNt, RE.O_isNl, RE.O_it1, RE.O_it2, RE.O_its, RE.O_rng1, RE.O_rng2, RE.O_fcat, RE.O_flist1, RE.O_flist2, RE.O_flist3, RE.O_fsort, RE.O_all, RE.O_any, RE.O_sum, RE.O_mulS, RE.O_mulT, RE.O_mulL, RE.O_frep, RE.O_idl, RE.O_idt, RE.O_ids, RE.K_rngN, RE.opEq_int, RE.opEqB, decide_true, decide_false, Int.reduceEq, Int.reduceLT, Int.reduceLE, Bool.bne_true, Bool.bne_false, Bool.true_bne, Bool.false_bne, RE.entry, RE.at_zero, RE.at_one, RE.at_two, List.map_cons, List.map_nil, List.cons_append, List.nil_append, List.getD_cons_zero, List.getD_cons_succ, List.set_cons_zero, List.set_cons_succ, List.length_cons, List.length_nil, List.reduceReplicate, Bool.not_false, Bool.not_true, Bool.and_true, Bool.true_and, Bool.and_false, Bool.false_and, Bool.or_true, Bool.true_or, Bool.or_false, Bool.false_or, beq_self_eq_true, Nat.zero_add, Nat.reduceAdd, Nat.reduceSub, Nat.reduceBEq, bne_self_eq_false, String.reduceBEq, Nat.reduceLeDiff, List.length_map, Int.reduceAdd, Int.reduceSub, Int.reduceNeg, $xs,*])
/-! ### floors -/
def gr {α : Type} (h w : Nat) (f : Nat → Nat → α) : List (List α) := (List.range h).map fun r => (List.range w).map fun c => f r c
def sgn (b : Bool) : Nat := if b = true then 46 else 35
def rowL (w : Nat) (g : Nat → Bool) : List Nat := (List.range w).map fun c => sgn (g c)
def rowD (w : Nat) (g : Nat → Bool) : RE.D := .str (rowL w g)
/-- a floor of h rows and w columns whose squares are told by f -/
def flD (h w : Nat) (f : Nat → Nat → Bool) : RE.D := .tup ((List.range h).map fun r => rowD w (f r))
structure Fits (h w : Nat) : Prop where
  h1 : 1 ≤ h
  h2 : h ≤ 12
  w1 : 1 ≤ w
  w2 : w ≤ 12
theorem rowL_len (w : Nat) (g : Nat → Bool) : (rowL w g).length = w := by simp [rowL]
theorem sgn_or (b : Bool) : sgn b = 46 ∨ sgn b = 35 := by cases b <;> simp [sgn]
theorem rowL_get {w : Nat} {g : Nat → Bool} {c : Nat} (h : c < (rowL w g).length) : (rowL w g)[c] = sgn (g c) := by simp [rowL]
theorem sgn_46 (b : Bool) : decide (sgn b = 46) = b := by cases b <;> rfl
theorem rowL_ok (w : Nat) (g : Nat → Bool) : okS (rowL w g) = true := by
  unfold okS rowL
  rw [List.all_map, List.all_eq_true]
  intro c _
  rcases sgn_or (g c) with e | e <;> simp [e]
theorem shp_row (n w : Nat) (g : Nat → Bool) : shp n (rowD w g) = true := by
  unfold rowD
  rw [shp_str]
  exact rowL_ok w g
theorem shp_fl (n h w : Nat) (f : Nat → Nat → Bool) : shp (n + 1) (flD h w f) = true := by
  show ((List.range h).map fun r => rowD w (f r)).all (shp n) = true
  rw [List.all_map, List.all_eq_true]
  exact fun r _ => shp_row n w (f r)
theorem sgn_inj {a b : Bool} (e : sgn a = sgn b) : a = b := by
  cases a <;> cases b <;> first | rfl | (cases e)
theorem map_range_inj {α : Type} {n : Nat} {f g : Nat → α} : (List.range n).map f = (List.range n).map g ↔ ∀ i, i < n → f i = g i := by
  constructor
  · intro e i hi
    have := congrArg (fun l => l[i]?) e
    simpa [hi] using this
  · intro h
    exact List.map_congr_left fun i hi => h i (List.mem_range.mp hi)
theorem flD_inj {h w h' w' : Nat} {f g : Nat → Nat → Bool} (f1 : 1 ≤ h) : flD h w f = flD h' w' g ↔ h = h' ∧ w = w' ∧ ∀ r c, r < h → c < w → f r c = g r c := by
  constructor
  · intro e
    have e : ((List.range h).map fun r => rowD w (f r)) = (List.range h').map fun r => rowD w' (g r) := by
      unfold flD at e
      exact RE.D.tup.inj e
    have eh : h = h' := by simpa using congrArg List.length e
    subst eh
    rw [map_range_inj] at e
    have ew : w = w' := by
      have := e 0 (by omega)
      have := congrArg List.length (RE.D.str.inj this)
      simpa [rowL_len] using this
    subst ew
    refine ⟨rfl, rfl, fun r c hr hc => ?_⟩
    have := RE.D.str.inj (e r hr)
    unfold rowL at this
    rw [map_range_inj] at this
    exact sgn_inj (this c hc)
  · rintro ⟨rfl, rfl, e⟩
    unfold flD
    congr 1
    rw [map_range_inj]
    intro r hr
    unfold rowD rowL
    congr 1
    rw [map_range_inj]
    exact fun c hc => by rw [e r c hr hc]
theorem eqvs_rows (w w' : Nat) (f g : Nat → Nat → Bool) : ∀ (xs ys : List Nat), eqvs (xs.map fun r => rowD w (f r)) (ys.map fun r => rowD w' (g r)) = true ↔ (xs.map fun r => rowD w (f r)) = (ys.map fun r => rowD w' (g r))
  | [], [] => by simp [eqvs]
  | [], y :: ys => by simp [eqvs]
  | x :: xs, [] => by simp [eqvs]
  | x :: xs, y :: ys => by
    rw [List.map_cons, List.map_cons, eqvs, Bool.and_eq_true, eqvs_rows, List.cons.injEq]
    unfold rowD
    rw [enc_str, RE.D.str.injEq]
theorem eqv_fl (h w h' w' : Nat) (f g : Nat → Nat → Bool) : eqv (flD h w f) (flD h' w' g) = true ↔ flD h w f = flD h' w' g := by
  unfold flD
  rw [eqv, eqvs_rows, RE.D.tup.injEq]
/-! ### small defs -/
theorem w_is_integer (k : Nat) (i : Int) : (RE.callF T FU (k+1)).f 0 [.int i] = .ok (.bl true) := by
  rw [c_is_integer]
  simp_arith [l_is_integer]
theorem w_is_whole (k : Nat) (i lo hi : Int) : (RE.callF T FU (k+2)).f 1 [.int i, .int lo, .int hi] = .ok (.bl (decide (lo ≤ i) && decide (i ≤ hi))) := by
  rw [c_is_whole]
  simp_arith [l_is_whole, w_is_integer]
  by_cases h : lo ≤ i
  · rw [decide_eq_true h]; simp_arith []
  · rw [decide_eq_false h]; simp_arith []
theorem w_is_tuple_of (k : Nat) (xs : List RE.D) (lo hi : Int) : (RE.callF T FU (k+1)).f 2 [.tup xs, .int lo, .int hi] = .ok (.bl (decide (lo ≤ xs.length) && decide ((xs.length : Int) ≤ hi))) := by
  rw [c_is_tuple_of]
  simp_arith [l_is_tuple_of]
  by_cases h : lo ≤ xs.length
  · rw [decide_eq_true h]; simp_arith []
  · rw [decide_eq_false h]; simp_arith []
theorem w_is_word (k w : Nat) (g : Nat → Bool) (h1 : 1 ≤ w) (h2 : w ≤ 12) : (RE.callF T FU (k+1)).f 3 [rowD w g, .str [46, 35], .int 1, .int 12] = .ok (.bl true) := by
  rw [c_is_word]
  unfold rowD
  have hl := rowL_len w g
  have a1 : decide ((1 : Int) ≤ ((rowL w g).length : Int)) = true := decide_eq_true (by omega)
  have a2 : decide (((rowL w g).length : Int) ≤ 12) = true := decide_eq_true (by omega)
  simp_arith [l_is_word, a1, a2]
  rw [comp_all (fun c => RE.D.str [c]) (fun _ => RE.D.bl true) (rowL w g) (by omega) fun c hc => ⟨_, _, rfl, ?_⟩]
  · simp_arith []
    have : op .all [.lst ((rowL w g).map fun _ => RE.D.bl true)] = .ok (.bl true) := by
      have := O_all ((rowL w g).map fun _ => true)
      rw [List.map_map] at this
      rw [show ((rowL w g).map fun _ => RE.D.bl true) = (rowL w g).map (RE.D.bl ∘ fun _ => true) from rfl, this]
      simp
    rw [this]
    simp_arith []
  · unfold rowL at hc
    obtain ⟨c0, _, rfl⟩ := List.mem_map.mp hc
    simp_arith [l_is_word_x1]
    rcases sgn_or (g c0) with e | e <;> rw [e] <;> rfl
theorem dedup_rep (n : Nat) (x : Int) (h : 1 ≤ n) : dedup (List.replicate n x) = [x] := by
  obtain ⟨m, rfl⟩ : ∃ m, n = m + 1 := ⟨n - 1, by omega⟩
  unfold dedup
  rw [List.replicate_succ, List.foldl_cons]
  show List.foldl _ [x] _ = _
  induction m with
  | zero => rfl
  | succ m ih =>
    rw [List.replicate_succ, List.foldl_cons]
    have : (if ([x] : List Int).any (· == x) then [x] else [x] ++ [x]) = [x] := by simp
    rw [this]
    exact ih (by omega)
theorem w_fits_floor (k h w : Nat) (f : Nat → Nat → Bool) (F : Fits h w) : (RE.callF T FU (k+2)).f 4 [flD h w f] = .ok (.bl true) := by
  obtain ⟨h1, h2, w1, w2⟩ := F
  rw [c_fits_floor]
  unfold flD
  have b1 : decide ((1 : Int) ≤ (h : Int)) = true := decide_eq_true (by omega)
  have b2 : decide ((h : Int) ≤ 12) = true := decide_eq_true (by omega)
  simp_arith [l_fits_floor, w_is_tuple_of, List.length_range]
  rw [comp_all (fun r => rowD w (f r)) (fun _ => RE.D.bl true) (List.range h) (by simp; omega) fun r hr => ⟨_, _, rfl, ?_⟩]
  · simp_arith [b1, b2, all_true]
    rw [comp_all (fun r => rowD w (f r)) (fun _ => RE.D.int w) (List.range h) (by simp; omega) fun r hr => ⟨_, _, rfl, ?_⟩]
    · have : op .lenset [.lst ((List.range h).map fun _ => RE.D.int w)] = .ok (.int 1) := by
        have e : ((List.range h).map fun _ => RE.D.int w) = (List.replicate h (w : Int)).map RE.D.int := by
          rw [List.map_replicate, List.map_const', List.length_range]
        rw [e]
        show (ofO (intsOf ((List.replicate h (w : Int)).map RE.D.int))).bind _ = _
        rw [O_ints, K_o1, Out.bind_ok]
        rw [dedup_rep _ _ h1, decide_eq_true (by simp; omega)]
        rfl
      simp_arith [this, opEq_int]
    · simp_arith [l_fits_floor_x2]
      unfold rowD
      have hl := rowL_len w (f r)
      simp_arith []
      rw [hl]
  · simp_arith [l_fits_floor_x1, w_is_word]
theorem w_need_floor (k h w : Nat) (f : Nat → Nat → Bool) (F : Fits h w) : (RE.callF T FU (k+3)).f 5 [flD h w f] = .ok .non := by
  rw [c_need_floor]
  simp_arith [l_need_floor, w_fits_floor]
/-- a place of a floor -/
def plD (r c : Nat) : RE.D := sqD ((r : Int), (c : Int))
theorem plD_def (r c : Nat) : plD r c = .tup [.int r, .int c] := rfl
theorem w_is_place (k r c : Nat) (hr : r < 12) (hc : c < 12) : (RE.callF T FU (k+3)).f 6 [.tup [.int (r : Int), .int (c : Int)]] = .ok (.bl true) := by
  rw [c_is_place]
  have b1 : decide ((0 : Int) ≤ (r : Int)) = true := decide_eq_true (by omega)
  have b2 : decide ((r : Int) ≤ 11) = true := decide_eq_true (by omega)
  have b3 : decide ((0 : Int) ≤ (c : Int)) = true := decide_eq_true (by omega)
  have b4 : decide ((c : Int) ≤ 11) = true := decide_eq_true (by omega)
  have b5 : decide ((2 : Int) ≤ ((2 : Nat) : Int)) = true := rfl
  have b6 : decide (((2 : Nat) : Int) ≤ (2 : Int)) = true := rfl
  simp_arith [l_is_place, w_is_tuple_of, O_idt, w_is_whole, b1, b2, b3, b4, b5, b6]
theorem flD_row {h w : Nat} {f : Nat → Nat → Bool} {r : Nat} (hr : r < h) : atI ((List.range h).map fun r => rowD w (f r)) (r : Int) = some (rowD w (f r)) := by
  rw [at_nat (by simpa using hr)]
  simp
theorem row_at {w : Nat} {g : Nat → Bool} {c : Nat} (hc : c < w) (hw : w ≤ 12) : opIdx (rowD w g) (.int (c : Int)) = .ok (.str [sgn (g c)]) := by
  unfold rowD
  rw [O_ids _ _ (by rw [rowL_len]; omega), at_nat (by rw [rowL_len]; omega), rowL_get]
  rfl
theorem w_is_square (k h w : Nat) (f : Nat → Nat → Bool) (F : Fits h w) (r c : Nat) (hr : r < h) (hc : c < w) : (RE.callF T FU (k+4)).f 8 [flD h w f, .tup [.int (r : Int), .int (c : Int)]] = .ok (.bl (f r c)) := by
  obtain ⟨h1, h2, w1, w2⟩ := F
  rw [c_is_square]
  unfold flD
  have b1 : decide ((h : Int) ≤ (r : Int)) = false := decide_eq_false (by omega)
  have b2 : decide ((w : Int) ≤ (c : Int)) = false := decide_eq_false (by omega)
  have e0 : atI ((List.range h).map fun r => rowD w (f r)) 0 = some (rowD w (f 0)) := flD_row (r := 0) (by omega)
  have er := flD_row (w := w) (f := f) hr
  have el : op .len [rowD w (f 0)] = .ok (.int w) := by
    unfold rowD
    rw [O_lens _ (by rw [rowL_len]; omega), rowL_len]
  have es : opEq false (.str [sgn (f r c)]) (.str [46]) = .ok (.bl (f r c)) := by
    rw [opEq_str (by rcases sgn_or (f r c) with e | e <;> rw [e] <;> rfl) rfl]
    cases f r c <;> rfl
  simp_arith [l_is_square, w_is_place, List.length_range, b1, e0, el, b2, er, row_at, es]
theorem w_need_square (k h w : Nat) (f : Nat → Nat → Bool) (F : Fits h w) (r c : Nat) (hr : r < h) (hc : c < w) (hs : f r c = true) : (RE.callF T FU (k+5)).f 9 [flD h w f, .tup [.int (r : Int), .int (c : Int)]] = .ok .non := by
  rw [c_need_square]
  simp_arith [l_need_square, w_is_square k h w f F r c hr hc, hs]
/-! ### squares -/
/-- the squares of a floor, ascending -/
def sqL (h w : Nat) (f : Nat → Nat → Bool) : List (Nat × Nat) := (List.range h).flatMap fun r => ((List.range w).filter (f r)).map fun c => (r, c)
def sqlD (l : List (Nat × Nat)) : List RE.D := l.map fun p => plD p.1 p.2
theorem sqlD_len (l : List (Nat × Nat)) : (sqlD l).length = l.length := by simp [sqlD]
theorem range_len_sqL (h w : Nat) (f : Nat → Nat → Bool) : (sqL h w f).length ≤ h * w := by
  unfold sqL
  induction h with
  | zero => simp
  | succ h ih =>
    rw [List.range_succ, List.flatMap_append, List.length_append, Nat.succ_mul]
    have : (((List.range w).filter (f h)).map fun c => (h, c)).length ≤ w := by
      rw [List.length_map]
      exact Nat.le_trans (List.length_filter_le _ _) (by simp)
    simp only [List.flatMap_cons, List.flatMap_nil, List.append_nil]
    omega
theorem sqL_succ (h w : Nat) (f : Nat → Nat → Bool) : sqL (h + 1) w f = sqL h w f ++ ((List.range w).filter (f h)).map fun c => (h, c) := by
  unfold sqL
  rw [List.range_succ, List.flatMap_append]
  simp
theorem enum_rows {n : Nat} (g : Nat → RE.D) : enumL 0 ((List.range n).map g) = (List.range n).map fun (i : Nat) => .tup [.int (i : Int), g i] := by
  have : ∀ (m i : Nat), enumL i ((List.range' i m).map g) = (List.range' i m).map fun (i : Nat) => .tup [.int (i : Int), g i] := by
    intro m
    induction m with
    | zero => intro i; rfl
    | succ m ih =>
      intro i
      rw [List.range'_succ, List.map_cons, List.map_cons, ← ih (i + 1)]
      rfl
  rw [List.range_eq_range']
  exact this n 0
theorem for_enum {body : Env → Out (Fl × Env)} {tg : Tg} (g : Nat → RE.D) (I : Nat → Env → Prop) (n : Nat) (h : ∀ i env, i < n → I i env → ∃ e1, bindT tg (.tup [.int (i : Int), g i]) env = .ok e1 ∧ ∃ e2, body e1 = .ok (.nx, e2) ∧ I (i + 1) e2) {env : Env} (h0 : I 0 env) :
    ∃ e2, forL body tg ((List.range n).map fun (i : Nat) => .tup [.int (i : Int), g i]) env = .ok (.nx, e2) ∧ I n e2 := by
  obtain ⟨e2, h1, h2⟩ := for_go (body := body) (tg := tg) (fun i : Nat => RE.D.tup [.int (i : Int), g i]) (fun p env => I p.length env) (List.range n) (fun p a q env e hi => by
    have hl : p.length < n := by have := congrArg List.length e; simp at this; omega
    have ha : a = p.length := by
      have := congrArg (fun l => l[p.length]?) e
      simp [hl] at this
      exact this.symm
    subst ha
    obtain ⟨e1, h1, e2, h2, h3⟩ := h _ env hl hi
    exact ⟨e1, h1, e2, h2, by rw [List.length_append]; exact h3⟩) [] (List.range n) env rfl h0
  refine ⟨e2, h1, ?_⟩
  have : (List.range n).length = n := List.length_range
  rw [this] at h2
  exact h2
theorem row_items {w : Nat} {g : Nat → Bool} (hw : w ≤ 12) : itemsOf (rowD w g) = .ok ((List.range w).map fun c => .str [sgn (g c)]) := by
  unfold rowD
  rw [O_its _ (by rw [rowL_len]; omega)]
  unfold rowL
  rw [List.map_map]
  rfl
theorem sign_eq (neg b : Bool) : opEq neg (.str [sgn b]) (.str [46]) = .ok (.bl (neg != b)) := by
  rw [opEq_str (by rcases sgn_or b with e | e <;> rw [e] <;> rfl) rfl]
  cases b <;> rfl
theorem w_squares_in (k h w : Nat) (f : Nat → Nat → Bool) (F : Fits h w) : (RE.callF T FU (k+1)).f 7 [flD h w f] = .ok (.lst (sqlD (sqL h w f))) := by
  obtain ⟨h1, h2, w1, w2⟩ := F
  rw [c_squares_in]
  unfold flD
  simp_arith [l_squares_in]
  rw [enum_rows]
  refine for_then (for_enum (fun r => rowD w (f r)) (fun i env => ∃ a b c d, env = [Slot.val (.tup ((List.range h).map fun r => rowD w (f r))), .val (.lst (sqlD (sqL i w f))), a, b, c, d]) h ?_ ⟨_, _, _, _, rfl⟩) ?_
  · rintro i env hi ⟨a, b, c, d, rfl⟩
    refine ⟨_, rfl, ?_⟩
    simp_arith [l_squares_in_b1, row_items w2, enum_rows]
    rw [comp_ok (fun c : Nat => RE.D.tup [.int (c : Int), .str [sgn (f i c)]]) (fun c => f i c) (fun c => plD i c) (List.range w) (by simp; omega) fun c hc => ⟨_, rfl, ?_, fun _ => ?_⟩]
    · have hl : (sqlD (sqL i w f)).length + (((List.range w).filter fun c => f i c).map fun c => plD i c).length ≤ 16777216 := by
        rw [sqlD_len, List.length_map]
        have h1 := range_len_sqL i w f
        have h2 := List.length_filter_le (fun c => f i c) (List.range w)
        have h3 : i * w ≤ 12 * 12 := Nat.mul_le_mul (by omega) w2
        rw [List.length_range] at h2
        omega
      simp_arith []
      have e : sqlD (sqL (i + 1) w f) = sqlD (sqL i w f) ++ ((List.range w).filter fun c => f i c).map fun c => plD i c := by
        rw [sqL_succ]
        unfold sqlD
        rw [List.map_append, List.map_map]
        rfl
      rw [e]
      exact ⟨_, rfl, _, _, _, _, rfl⟩
    · simp_arith [l_squares_in_y1, sign_eq]
    · simp_arith [l_squares_in_x1]
      rfl
  · rintro e2 ⟨a, b, c, d, rfl⟩
    simp_arith []
theorem w_squares_of (k h w : Nat) (f : Nat → Nat → Bool) (F : Fits h w) : (RE.callF T FU (k+4)).f 12 [flD h w f] = .ok (.tup (sqlD (sqL h w f))) := by
  rw [c_squares_of]
  simp_arith [l_squares_of, w_need_floor k h w f F, w_squares_in (k+2) h w f F]
/-! ### squares stand in order -/
def sqI (p : Nat × Nat) : Int × Int := ((p.1 : Int), (p.2 : Int))
theorem sqlD_sq (l : List (Nat × Nat)) : sqlD l = (l.map sqI).map sqD := by
  unfold sqlD
  rw [List.map_map]
  rfl
theorem mem_sqL {h w : Nat} {f : Nat → Nat → Bool} {p : Nat × Nat} : p ∈ sqL h w f ↔ p.1 < h ∧ p.2 < w ∧ f p.1 p.2 = true := by
  unfold sqL
  simp only [List.mem_flatMap, List.mem_range, List.mem_map, List.mem_filter]
  constructor
  · rintro ⟨r, hr, c, ⟨hc, hf⟩, rfl⟩
    exact ⟨hr, hc, hf⟩
  · rintro ⟨h1, h2, h3⟩
    exact ⟨p.1, h1, p.2, ⟨h2, h3⟩, rfl⟩
theorem sqL_lt (h w : Nat) (f : Nat → Nat → Bool) : (sqL h w f).Pairwise fun a b => a.1 < b.1 ∨ (a.1 = b.1 ∧ a.2 < b.2) := by
  induction h with
  | zero => exact .nil
  | succ h ih =>
    rw [sqL_succ, List.pairwise_append]
    refine ⟨ih, ?_, ?_⟩
    · rw [List.pairwise_map]
      refine List.Pairwise.imp (fun {a b} hab => .inr ⟨rfl, hab⟩) (List.Pairwise.filter _ List.pairwise_lt_range)
    · intro a ha b hb
      have := (mem_sqL.mp ha).1
      obtain ⟨c, _, rfl⟩ := List.mem_map.mp hb
      exact .inl this
theorem sqL_nodup (h w : Nat) (f : Nat → Nat → Bool) : (sqL h w f).Nodup :=
  (sqL_lt h w f).imp fun {a b} hab e => by subst e; omega
theorem sqL_le (h w : Nat) (f : Nat → Nat → Bool) : ((sqL h w f).map sqI).Pairwise fun a b => sqLe a b = true := by
  rw [List.pairwise_map]
  refine (sqL_lt h w f).imp fun {a b} hab => decide_eq_true ?_
  unfold sqI
  simp only
  omega
theorem sqI_inj {a b : Nat × Nat} (e : sqI a = sqI b) : a = b := by
  unfold sqI at e
  have h1 := congrArg Prod.fst e
  have h2 := congrArg Prod.snd e
  simp only at h1 h2
  exact Prod.ext (by omega) (by omega)
end Lw
end

section
set_option linter.all false
set_option maxRecDepth 100000
set_option maxHeartbeats 4000000
set_option autoImplicit false
/-! WT1: turn words. -/
namespace Lw
open RE
open L2 (atI ixN)
local macro_rules
  | `(tactic| simp_arith [$xs,*]) => `(tactic| simp (disch := first | assumption | omega | decide | (simp; done) | (simp <;> omega) | fail) only [RE.E_con, RE.E_var, RE.E_bvar, RE.E_tup, RE.E_new, RE.E_op, RE.E_and, RE.E_or, RE.E_not, RE.E_ite, RE.E_chain, RE.E_call, RE.E_dic, RE.E_nil, RE.E_cons, RE.E_lst, RE.E_fop, RE.E_fcall, RE.E_comp, RE.E_ival, RE.E_irng, RE.E_ienum, RE.E_izip, RE.E_pur, RE.E_mop, RE.E_mtup, RE.E_mlst, RE.E_mite, RE.E_mnot, RE.E_mand, RE.E_mor, RE.E_mcall, RE.E_io, RE.E_pop, RE.E_popAt, RE.E_mnil, RE.E_mcons, RE.E_rval, RE.E_rown, RE.E_rdic, RE.E_rsnil, RE.E_rscons, RE.E_sname, RE.E_ssub, RE.E_ssub2, RE.E_ssnil, RE.E_sscons, RE.E_pass, RE.E_brk, RE.E_cnt, RE.E_retN, RE.E_frz, RE.E_ret, RE.E_expr, RE.E_set, RE.E_setLL, RE.E_unpack, RE.E_par, RE.E_asg, RE.E_app, RE.E_appF, RE.E_site, RE.E_whl, RE.E_forp, RE.E_forr, RE.E_raise, RE.E_snil, RE.E_scons, RE.K_nx, RE.K_rt, RE.K_bk, RE.K_ct, RE.K_var, RE.K_l1, RE.K_l2, RE.K_l3, RE.K_l4, RE.K_l5, RE.K_ift, RE.K_iff, RE.K_ct1, RE.K_ct2, RE.K_io, RE.K_pop, RE.K_frz, RE.K_frz1, RE.K_fl, RE.K_fll, RE.K_fd, RE.K_ioE, RE.K_frE, RE.K_own, RE.K_ownL, RE.K_ownLL, RE.K_rs, RE.K_rn, RE.K_so1, RE.K_so2, RE.K_b1, RE.K_bm, RE.K_s0, RE.K_s1, RE.K_w0, RE.K_w1, RE.K_o1, RE.K_app, RE.K_appF0, RE.K_appF, RE.C_v, RE.C_i, RE.C_r, RE.K_bok, RE.K_bexc, RE.K_bbad, RE.K_chkt, RE.K_chkf, RE.K_assoc, RE.K_cast, RE.K_setS, RE.O_and1, RE.O_int, RE.O_non, RE.O_lst, RE.O_tup, RE.O_add, RE.O_sub, RE.O_adl, RE.O_adt, RE.O_ads, RE.O_mul, RE.O_fdiv, RE.O_mod, RE.O_neg, RE.O_abs, RE.O_toint, RE.O_lt, RE.O_le, RE.O_gt, RE.O_ge, RE.O_eq, RE.O_ne, RE.O_in, RE.O_notin, RE.O_isN, RE.O_isntN, RE.O_idx, RE.O_get2, RE.O_lenl, RE.O_lent, RE.O_lend, RE.O_lens, RE.O_tuple1, RE.O_tuple2, RE.O_isi, RE.O_join, RE.O_revt, RE.O_revl, RE.O_revs, RE.O_max2, RE.O_min2, RE.O_iI, RE.O_iB, RE.O_iS, RE.O_iT, RE.O_iL, RE.O_iN, RE.O_isNn, RE.O_isNi, RE.O_isNb, RE.O_isNs, RE.O_isNt, RE.O_isNl, RE.O_it1, RE.O_it2, RE.O_its, RE.O_rng1, RE.O_rng2, RE.O_fcat, RE.O_flist1, RE.O_flist2, RE.O_flist3, RE.O_fsort, RE.O_all, RE.O_any, RE.O_sum, RE.O_mulS, RE.O_mulT, RE.O_mulL, RE.O_frep, RE.O_idl, RE.O_idt, RE.O_ids, RE.K_rngN, RE.opEq_int, RE.opEqB, decide_true, decide_false, Int.reduceEq, Int.reduceLT, Int.reduceLE, Bool.bne_true, Bool.bne_false, Bool.true_bne, Bool.false_bne, RE.entry, RE.at_zero, RE.at_one, RE.at_two, List.map_cons, List.map_nil, List.cons_append, List.nil_append, List.getD_cons_zero, List.getD_cons_succ, List.set_cons_zero, List.set_cons_succ, List.length_cons, List.length_nil, List.reduceReplicate, Bool.not_false, Bool.not_true, Bool.and_true, Bool.true_and, Bool.and_false, Bool.false_and, Bool.or_true, Bool.true_or, Bool.or_false, Bool.false_or, beq_self_eq_true, Nat.zero_add, Nat.reduceAdd, Nat.reduceSub, Nat.reduceBEq, bne_self_eq_false, String.reduceBEq, Nat.reduceLeDiff, List.length_map, Int.reduceAdd, Int.reduceSub, Int.reduceNeg, $xs,*])
inductive Wd where
  | back | flat | half | quarter | slant | stay | threequarter | upright
  deriving DecidableEq
namespace Wd
def all : List Wd := [back, flat, half, quarter, slant, stay, threequarter, upright]
theorem mem_all (x : Wd) : x ∈ all := by cases x <;> simp [all]
def s : Wd → List Nat
  | back => [98, 97, 99, 107]
  | flat => [102, 108, 97, 116]
  | half => [104, 97, 108, 102]
  | quarter => [113, 117, 97, 114, 116, 101, 114]
  | slant => [115, 108, 97, 110, 116]
  | stay => [115, 116, 97, 121]
  | threequarter => [116, 104, 114, 101, 101, 113, 117, 97, 114, 116, 101, 114]
  | upright => [117, 112, 114, 105, 103, 104, 116]
def d (x : Wd) : RE.D := .str x.s
/-- rows exchanged with columns; rows told from below; columns told from the right -/
def xc : Wd → Bool
  | back | quarter | slant | threequarter => true
  | _ => false
def dn : Wd → Bool
  | back | half | quarter | upright => true
  | _ => false
def rt : Wd → Bool
  | back | flat | half | threequarter => true
  | _ => false
def h' (x : Wd) (h w : Nat) : Nat := if x.xc = true then w else h
def w' (x : Wd) (h w : Nat) : Nat := if x.xc = true then h else w
/-- where a place goes -/
def go (x : Wd) (h w : Nat) (p : Nat × Nat) : Nat × Nat :=
  if x.xc = true then (if x.rt = true then w - 1 - p.2 else p.2, if x.dn = true then h - 1 - p.1 else p.1) else (if x.dn = true then h - 1 - p.1 else p.1, if x.rt = true then w - 1 - p.2 else p.2)
/-- where a place comes from -/
def from' (x : Wd) (h w : Nat) (p : Nat × Nat) : Nat × Nat :=
  if x.xc = true then (if x.dn = true then h - 1 - p.2 else p.2, if x.rt = true then w - 1 - p.1 else p.1) else (if x.dn = true then h - 1 - p.1 else p.1, if x.rt = true then w - 1 - p.2 else p.2)
theorem go_lt (x : Wd) {h w : Nat} {p : Nat × Nat} (h1 : p.1 < h) (h2 : p.2 < w) : (x.go h w p).1 < x.h' h w ∧ (x.go h w p).2 < x.w' h w := by
  cases x <;> simp [go, h', w', xc, dn, rt] <;> omega
theorem from_lt (x : Wd) {h w : Nat} {p : Nat × Nat} (h1 : p.1 < x.h' h w) (h2 : p.2 < x.w' h w) : (x.from' h w p).1 < h ∧ (x.from' h w p).2 < w := by
  cases x <;> simp [from', h', w', xc, dn, rt] at h1 h2 ⊢ <;> omega
theorem go_from (x : Wd) {h w : Nat} {p : Nat × Nat} (h1 : p.1 < x.h' h w) (h2 : p.2 < x.w' h w) : x.go h w (x.from' h w p) = p := by
  obtain ⟨a, b⟩ := p
  cases x <;> simp [go, from', h', w', xc, dn, rt] at h1 h2 ⊢ <;> omega
theorem from_go (x : Wd) {h w : Nat} {p : Nat × Nat} (h1 : p.1 < h) (h2 : p.2 < w) : x.from' h w (x.go h w p) = p := by
  obtain ⟨a, b⟩ := p
  simp only at h1 h2
  cases x <;> simp [go, from', xc, dn, rt] <;> omega
/-- a floor turned -/
def tf (x : Wd) (h w : Nat) (f : Nat → Nat → Bool) (a b : Nat) : Bool := f (x.from' h w (a, b)).1 (x.from' h w (a, b)).2
end Wd
theorem Fits.turn {h w : Nat} (F : Fits h w) (x : Wd) : Fits (x.h' h w) (x.w' h w) := by
  obtain ⟨h1, h2, w1, w2⟩ := F
  cases x <;> simp only [Wd.h', Wd.w', Wd.xc, if_true, if_false, Bool.false_eq_true] <;> exact ⟨by assumption, by assumption, by assumption, by assumption⟩
theorem w_goes_to_int (k : Nat) (x : Wd) (h w r c : Int) : (RE.callF T FU (k+1)).f 15 [.int h, .int w, x.d, .tup [.int r, .int c]] = .ok (if x.xc = true then .tup [.int (if x.rt = true then w - 1 - c else c), .int (if x.dn = true then h - 1 - r else r)] else .tup [.int (if x.dn = true then h - 1 - r else r), .int (if x.rt = true then w - 1 - c else c)]) := by
  rw [c_goes_to]
  cases x <;> rfl
theorem w_goes_to (k : Nat) (x : Wd) {h w r c : Nat} (hr : r < h) (hc : c < w) : (RE.callF T FU (k+1)).f 15 [.int (h : Int), .int (w : Int), x.d, .tup [.int (r : Int), .int (c : Int)]] = .ok (.tup [.int ((x.go h w (r, c)).1 : Int), .int ((x.go h w (r, c)).2 : Int)]) := by
  rw [w_goes_to_int]
  have e1 : ((h : Int) - 1 - (r : Int)) = ((h - 1 - r : Nat) : Int) := by omega
  have e2 : ((w : Int) - 1 - (c : Int)) = ((w - 1 - c : Nat) : Int) := by omega
  rw [e1, e2]
  cases x <;> rfl
theorem w_sides_by (k : Nat) (x : Wd) (h w : Nat) : (RE.callF T FU (k+1)).f 16 [.int (h : Int), .int (w : Int), x.d] = .ok (.tup [.int (x.h' h w : Int), .int (x.w' h w : Int)]) := by
  rw [c_sides_by]
  cases x <;> rfl
/-- what a table of single signs holds on the way -/
def cell (x : Wd) (h w : Nat) (f : Nat → Nat → Bool) (done : Nat → Nat → Bool) (a b : Nat) : RE.D := if done (x.from' h w (a, b)).1 (x.from' h w (a, b)).2 = true then .str [sgn (x.tf h w f a b)] else .str []
theorem cell_step (x : Wd) {h w : Nat} (f : Nat → Nat → Bool) {r c : Nat} (hr : r < h) (hc : c < w) (done done' : Nat → Nat → Bool) (e : ∀ r' c', done' r' c' = (done r' c' || (r' == r && c' == c))) :
    grL (x.h' h w) (x.w' h w) (fun a b => if a = (x.go h w (r, c)).1 ∧ b = (x.go h w (r, c)).2 then .str [sgn (f r c)] else cell x h w f done a b) = grL (x.h' h w) (x.w' h w) (cell x h w f done') := by
  refine grL_congr fun a b ha hb => ?_
  by_cases q : a = (x.go h w (r, c)).1 ∧ b = (x.go h w (r, c)).2
  · rw [if_pos q]
    have q : (a, b) = x.go h w (r, c) := Prod.ext q.1 q.2
    unfold cell Wd.tf
    rw [q, Wd.from_go x hr hc]
    simp only
    rw [if_pos (by rw [e]; simp)]
  · rw [if_neg q]
    unfold cell
    rw [e]
    have : ¬ ((x.from' h w (a, b)).1 = r ∧ (x.from' h w (a, b)).2 = c) := fun z => q (by
      have z : x.from' h w (a, b) = (r, c) := Prod.ext z.1 z.2
      rw [← z, Wd.go_from x ha hb]
      exact ⟨rfl, rfl⟩)
    have : ((x.from' h w (a, b)).1 == r && (x.from' h w (a, b)).2 == c) = false := by simpa using this
    rw [this, Bool.or_false]
theorem fl_row0 {h w : Nat} {f : Nat → Nat → Bool} (F : Fits h w) : atI ((List.range h).map fun r => rowD w (f r)) 0 = some (rowD w (f 0)) := flD_row (r := 0) F.h1
theorem len_row {w : Nat} {g : Nat → Bool} (hw : w ≤ 12) : op .len [rowD w g] = .ok (.int w) := by
  unfold rowD
  rw [O_lens _ (by rw [rowL_len]; omega), rowL_len]
theorem w_floor_by (k h w : Nat) (f : Nat → Nat → Bool) (F : Fits h w) (x : Wd) : (RE.callF T FU (k+2)).f 17 [flD h w f, x.d] = .ok (flD (x.h' h w) (x.w' h w) (x.tf h w f)) := by
  obtain ⟨t1, t2, t3, t4⟩ := F.turn x
  have e0 := fl_row0 (f := f) F
  obtain ⟨h1, h2, w1, w2⟩ := F
  rw [c_floor_by]
  unfold flD
  simp_arith [l_floor_by, e0, len_row w2, List.length_range, w_sides_by]
  rw [ll_ok (fun k : Nat => RE.D.int (k : Int)) (fun _ => (List.range (x.w' h w)).map fun _ => RE.D.str []) (List.range (x.h' h w)) (by simp; omega) fun a ha => ⟨_, rfl, ?_⟩]
  · simp_arith []
    refine for_then (for_rng (fun r env => ∃ a b c d e t, env = [Slot.val (.tup ((List.range h).map fun r => rowD w (f r))), .val x.d, .own (.lls t), a, .val (.int h), .val (.int w), .val (.int (x.h' h w)), .val (.int (x.w' h w)), b, c, d, e] ∧ t = grL (x.h' h w) (x.w' h w) (cell x h w f fun r' c' => decide (r' < r))) h ?_ ⟨_, _, _, _, _, _, rfl, ?_⟩) ?_
    · rintro r env hr ⟨a, b, c, d, e, t, rfl, rfl⟩
      refine ⟨_, rfl, ?_⟩
      simp_arith [l_floor_by_b1]
      refine for_then2 (for_rng (fun c' env => ∃ b c d e t, env = [Slot.val (.tup ((List.range h).map fun r => rowD w (f r))), .val x.d, .own (.lls t), .val (.int r), .val (.int h), .val (.int w), .val (.int (x.h' h w)), .val (.int (x.w' h w)), b, c, d, e] ∧ t = grL (x.h' h w) (x.w' h w) (cell x h w f fun a b => decide (a < r ∨ (a = r ∧ b < c')))) w ?_ ⟨b, c, d, e, _, rfl, ?_⟩) ?_
      · rintro c' env hc ⟨b, c, d, e, t, rfl, rfl⟩
        refine ⟨_, rfl, ?_⟩
        have gl := Wd.go_lt x (p := (r, c')) hr hc
        have er := flD_row (w := w) (f := f) hr
        simp_arith [l_floor_by_b2, w_goes_to k x hr hc, er, row_at hc w2, putSub2_gr gl.1 gl.2]
        rw [cell_step x f hr hc _ (fun a b => decide (a < r ∨ (a = r ∧ b < c' + 1))) (fun a b => by
          rw [Bool.eq_iff_iff]
          simp
          omega)]
        exact ⟨_, rfl, _, _, _, _, _, rfl, rfl⟩
      · refine grL_congr fun a b ha hb => ?_
        unfold cell
        simp
      · rintro e2 ⟨b, c, d, e, t, rfl, rfl⟩
        simp_arith []
        refine ⟨_, rfl, _, _, _, _, _, _, rfl, ?_⟩
        refine grL_congr fun a b ha hb => ?_
        have hf := Wd.from_lt x (p := (a, b)) ha hb
        unfold cell
        have : decide ((x.from' h w (a, b)).1 < r ∨ (x.from' h w (a, b)).1 = r ∧ (x.from' h w (a, b)).2 < w) = decide ((x.from' h w (a, b)).1 < r + 1) := by
          rw [Bool.eq_iff_iff]
          simp
          omega
        simp only [this]
    · refine grL_congr (g := fun _ _ => RE.D.str []) fun a b ha hb => ?_
      unfold cell
      simp
    · rintro e2 ⟨a, b, c, d, e, t, rfl, rfl⟩
      have eg : (grL (x.h' h w) (x.w' h w) (cell x h w f fun r' c' => decide (r' < h))).map RE.D.lst = (List.range (x.h' h w)).map fun a => .lst ((List.range (x.w' h w)).map fun b => .str [sgn (x.tf h w f a b)]) := by
        unfold grL
        rw [List.map_map]
        refine List.map_congr_left fun a ha => ?_
        show RE.D.lst _ = _
        congr 1
        refine List.map_congr_left fun b hb => ?_
        have hf := Wd.from_lt x (p := (a, b)) (List.mem_range.mp ha) (List.mem_range.mp hb)
        unfold cell
        rw [if_pos (decide_eq_true hf.1)]
      simp_arith [eg]
      rw [comp_all (fun a : Nat => RE.D.lst ((List.range (x.w' h w)).map fun b => .str [sgn (x.tf h w f a b)])) (fun a => rowD (x.w' h w) (x.tf h w f a)) (List.range (x.h' h w)) (by simp; omega) fun a ha => ⟨_, _, rfl, ?_⟩]
      · simp_arith []
      · simp_arith [l_floor_by_x1]
        rw [join_signs _ _ (by simp; omega)]
        rfl
  · simp_arith [l_floor_by_z1, repL_one]
end Lw
end

section
set_option linter.all false
set_option maxRecDepth 100000
set_option maxHeartbeats 4000000
set_option autoImplicit false
/-! WT2: turn words, the rest. -/
namespace Lw
open RE
open L2 (atI ixN)
local macro_rules
  | `(tactic| simp_arith [$xs,*]) => `(tactic| simp (disch := first | assumption | omega | decide | (simp; done) | (simp <;> omega) | fail) only [RE.E_con, RE.E_var, RE.E_bvar, RE.E_tup, RE.E_new, RE.E_op, RE.E_and, RE.E_or, RE.E_not, RE.E_ite, RE.E_chain, RE.E_call, RE.E_dic, RE.E_nil, RE.E_cons, RE.E_lst, RE.E_fop, RE.E_fcall, RE.E_comp, RE.E_ival, RE.E_irng, RE.E_ienum, RE.E_izip, RE.E_pur, RE.E_mop, RE.E_mtup, RE.E_mlst, RE.E_mite, RE.E_mnot, RE.E_mand, RE.E_mor, RE.E_mcall, RE.E_io, RE.E_pop, RE.E_popAt, RE.E_mnil, RE.E_mcons, RE.E_rval, RE.E_rown, RE.E_rdic, RE.E_rsnil, RE.E_rscons, RE.E_sname, RE.E_ssub, RE.E_ssub2, RE.E_ssnil, RE.E_sscons, RE.E_pass, RE.E_brk, RE.E_cnt, RE.E_retN, RE.E_frz, RE.E_ret, RE.E_expr, RE.E_set, RE.E_setLL, RE.E_unpack, RE.E_par, RE.E_asg, RE.E_app, RE.E_appF, RE.E_site, RE.E_whl, RE.E_forp, RE.E_forr, RE.E_raise, RE.E_snil, RE.E_scons, RE.K_nx, RE.K_rt, RE.K_bk, RE.K_ct, RE.K_var, RE.K_l1, RE.K_l2, RE.K_l3, RE.K_l4, RE.K_l5, RE.K_ift, RE.K_iff, RE.K_ct1, RE.K_ct2, RE.K_io, RE.K_pop, RE.K_frz, RE.K_frz1, RE.K_fl, RE.K_fll, RE.K_fd, RE.K_ioE, RE.K_frE, RE.K_own, RE.K_ownL, RE.K_ownLL, RE.K_rs, RE.K_rn, RE.K_so1, RE.K_so2, RE.K_b1, RE.K_bm, RE.K_s0, RE.K_s1, RE.K_w0, RE.K_w1, RE.K_o1, RE.K_app, RE.K_appF0, RE.K_appF, RE.C_v, RE.C_i, RE.C_r, RE.K_bok, RE.K_bexc, RE.K_bbad, RE.K_chkt, RE.K_chkf, RE.K_assoc, RE.K_cast, RE.K_setS, RE.O_and1, RE.O_int, RE.O_non, RE.O_lst, RE.O_tup, RE.O_add, RE.O_sub, RE.O_adl, RE.O_adt, RE.O_ads, RE.O_mul, RE.O_fdiv, RE.O_mod, RE.O_neg, RE.O_abs, RE.O_toint, RE.O_lt, RE.O_le, RE.O_gt, RE.O_ge, RE.O_eq, RE.O_ne, RE.O_in, RE.O_notin, RE.O_isN, RE.O_isntN, RE.O_idx, RE.O_get2, RE.O_lenl, RE.O_lent, RE.O_lend, RE.O_lens, RE.O_tuple1, RE.O_tuple2, RE.O_isi, RE.O_join, RE.O_revt, RE.O_revl, RE.O_revs, RE.O_max2, RE.O_min2, RE.O_iI, RE.O_iB, RE.O_iS, RE.O_iT, RE.O_iL, RE.O_iN, RE.O_isNn, RE.O_isNi, RE.O_isNb, RE.O_isNs, RE.O_isNt, RE.O_isNl, RE.O_it1, RE.O_it2, RE.O_its, RE.O_rng1, RE.O_rng2, RE.O_fcat, RE.O_flist1, RE.O_flist2, RE.O_flist3, RE.O_fsort, RE.O_all, RE.O_any, RE.O_sum, RE.O_mulS, RE.O_mulT, RE.O_mulL, RE.O_frep, RE.O_idl, RE.O_idt, RE.O_ids, RE.K_rngN, RE.opEq_int, RE.opEqB, decide_true, decide_false, Int.reduceEq, Int.reduceLT, Int.reduceLE, Bool.bne_true, Bool.bne_false, Bool.true_bne, Bool.false_bne, RE.entry, RE.at_zero, RE.at_one, RE.at_two, List.map_cons, List.map_nil, List.cons_append, List.nil_append, List.getD_cons_zero, List.getD_cons_succ, List.set_cons_zero, List.set_cons_succ, List.length_cons, List.length_nil, List.reduceReplicate, Bool.not_false, Bool.not_true, Bool.and_true, Bool.true_and, Bool.and_false, Bool.false_and, Bool.or_true, Bool.true_or, Bool.or_false, Bool.false_or, beq_self_eq_true, Nat.zero_add, Nat.reduceAdd, Nat.reduceSub, Nat.reduceBEq, bne_self_eq_false, String.reduceBEq, Nat.reduceLeDiff, List.length_map, Int.reduceAdd, Int.reduceSub, Int.reduceNeg, $xs,*])
theorem Wd.d_ok (x : Wd) (n : Nat) : shp n x.d = true := by
  unfold Wd.d
  rw [shp_str]
  cases x <;> rfl
theorem enc_wd : Enc Wd.d := fun x y => by
  show eqv (.str x.s) (.str y.s) = true ↔ _
  rw [enc_str]
  cases x <;> cases y <;> simp [Wd.s]
theorem opEq_fl (neg : Bool) (h w h' w' : Nat) (f g : Nat → Nat → Bool) : opEq neg (flD h w f) (flD h' w' g) = .ok (.bl (neg != eqv (flD h w f) (flD h' w' g))) := O_eqk (shp_fl 63 h w f) (shp_fl 63 h' w' g)
theorem opEq_wd (neg : Bool) (x y : Wd) : opEq neg x.d y.d = .ok (.bl (neg != decide (x = y))) := opEq_enc enc_wd (x.d_ok 64) (y.d_ok 64)
/-- whether a word leaves a floor -/
def leavesB (h w : Nat) (f : Nat → Nat → Bool) (x : Wd) : Bool := eqv (flD (x.h' h w) (x.w' h w) (x.tf h w f)) (flD h w f)
def ownL (h w : Nat) (f : Nat → Nat → Bool) : List Wd := Wd.all.filter (leavesB h w f)
def wdsD (l : List Wd) : List RE.D := l.map Wd.d
theorem wds_all : wdsD Wd.all = [RE.D.str [98, 97, 99, 107], RE.D.str [102, 108, 97, 116], RE.D.str [104, 97, 108, 102], RE.D.str [113, 117, 97, 114, 116, 101, 114], RE.D.str [115, 108, 97, 110, 116], RE.D.str [115, 116, 97, 121], RE.D.str [116, 104, 114, 101, 101, 113, 117, 97, 114, 116, 101, 114], RE.D.str [117, 112, 114, 105, 103, 104, 116]] := rfl
theorem w_own_words_in (k h w : Nat) (f : Nat → Nat → Bool) (F : Fits h w) : (RE.callF T FU (k+3)).f 18 [flD h w f] = .ok (.lst (wdsD (ownL h w f))) := by
  rw [c_own_words_in]
  simp_arith [l_own_words_in]
  rw [← wds_all]
  unfold wdsD
  rw [comp_ok Wd.d (leavesB h w f) Wd.d Wd.all (by decide) fun x _ => ⟨_, rfl, ?_, fun _ => ?_⟩]
  · simp_arith []
    rfl
  · simp_arith [l_own_words_in_y1, w_floor_by (k := k) (F := F), opEq_fl]
    rfl
  · simp_arith [l_own_words_in_x1]
/-- words put together -/
def Wd.mk (a b c : Bool) : Wd := match a, b, c with
  | true, true, true => .back
  | true, true, false => .quarter
  | true, false, true => .threequarter
  | true, false, false => .slant
  | false, true, true => .half
  | false, true, false => .upright
  | false, false, true => .flat
  | false, false, false => .stay
/-- two words, one behind the other -/
def Wd.bh (x y : Wd) : Wd := .mk (x.xc != y.xc) (x.dn != (if x.xc = true then y.rt else y.dn)) (x.rt != (if x.xc = true then y.dn else y.rt))
def Wd.ag (x : Wd) : Wd := match x with
  | .quarter => .threequarter
  | .threequarter => .quarter
  | x => x
theorem w_behind_in (k : Nat) (x y : Wd) : (RE.callF T FU (k+2)).f 19 [x.d, y.d] = .ok (x.bh y).d := by
  rw [c_behind_in, T_eq]
  cases x <;> cases y <;> kernel_rfl
theorem w_against_in (k : Nat) (x : Wd) : (RE.callF T FU (k+1)).f 20 [x.d] = .ok x.ag.d := by
  rw [c_against_in]
  cases x <;> kernel_rfl
theorem w_need_turn_word (k : Nat) (x : Wd) : (RE.callF T FU (k+1)).f 21 [x.d] = .ok .non := by
  rw [c_need_turn_word]
  cases x <;> kernel_rfl
theorem w_floor_by_word (k h w : Nat) (f : Nat → Nat → Bool) (F : Fits h w) (x : Wd) : (RE.callF T FU (k+4)).f 22 [flD h w f, x.d] = .ok (flD (x.h' h w) (x.w' h w) (x.tf h w f)) := by
  rw [c_floor_by_word]
  simp_arith [l_floor_by_word, w_need_floor k h w f F, w_need_turn_word, w_floor_by (k+1) h w f F]
theorem w_square_by_word (k h w : Nat) (f : Nat → Nat → Bool) (F : Fits h w) (x : Wd) (r c : Nat) (hr : r < h) (hc : c < w) (hs : f r c = true) : (RE.callF T FU (k+6)).f 23 [flD h w f, x.d, plD r c] = .ok (plD (x.go h w (r, c)).1 (x.go h w (r, c)).2) := by
  rw [c_square_by_word]
  have e0 := fl_row0 (f := f) F
  have a1 : op .len [flD h w f] = .ok (.int h) := by unfold flD; simp_arith [List.length_range]
  have a2 : opIdx (flD h w f) (.int 0) = .ok (rowD w (f 0)) := by unfold flD; simp_arith [e0]
  simp_arith [l_square_by_word, plD_def, w_need_floor (k+2) h w f F, w_need_turn_word, w_need_square k h w f F r c hr hc hs, a1, a2, len_row F.w2, w_goes_to (k+4) x hr hc]
theorem w_own_words (k h w : Nat) (f : Nat → Nat → Bool) (F : Fits h w) : (RE.callF T FU (k+4)).f 24 [flD h w f] = .ok (.tup (wdsD (ownL h w f))) := by
  rw [c_own_words]
  simp_arith [l_own_words, w_need_floor k h w f F, w_own_words_in k h w f F]
theorem w_word_behind (k : Nat) (x y : Wd) : (RE.callF T FU (k+3)).f 25 [x.d, y.d] = .ok (x.bh y).d := by
  rw [c_word_behind]
  simp_arith [l_word_behind, w_need_turn_word, w_behind_in]
theorem w_word_against (k : Nat) (x : Wd) : (RE.callF T FU (k+2)).f 26 [x.d] = .ok x.ag.d := by
  rw [c_word_against]
  simp_arith [l_word_against, w_need_turn_word, w_against_in]
/-! ### turned in, mirrored in -/
theorem w_mirrored_in (k h w : Nat) (f : Nat → Nat → Bool) (F : Fits h w) : (RE.callF T FU (k+1)).f 11 [flD h w f] = .ok (flD h w fun r c => f r (w - 1 - c)) := by
  rw [c_mirrored_in]
  unfold flD
  have h2 := F.h2
  have w2 := F.w2
  simp_arith [l_mirrored_in]
  rw [comp_all (fun r => rowD w (f r)) (fun r => rowD w fun c => f r (w - 1 - c)) (List.range h) (by simp; omega) fun r hr => ⟨_, _, rfl, ?_⟩]
  · simp_arith []
  · unfold rowD
    have hl : (rowL w (f r)).length ≤ 16777216 := by rw [rowL_len]; omega
    simp_arith [l_mirrored_in_x1]
    congr 2
    unfold rowL
    apply List.ext_getElem
    · simp
    · intro i h1 h2
      simp at h1 h2 ⊢
theorem w_turned_in (k h w : Nat) (f : Nat → Nat → Bool) (F : Fits h w) : (RE.callF T FU (k+1)).f 10 [flD h w f] = .ok (flD w h fun r c => f (h - 1 - c) r) := by
  have e0 := fl_row0 (f := f) F
  have h2 := F.h2
  have w2 := F.w2
  rw [c_turned_in]
  unfold flD
  simp_arith [l_turned_in, e0, len_row w2]
  rw [comp_all (fun r : Nat => RE.D.int (r : Int)) (fun r => rowD h fun c => f (h - 1 - c) r) (List.range w) (by simp; omega) fun r hr => ⟨_, _, rfl, ?_⟩]
  · simp_arith []
  · have hr := List.mem_range.mp hr
    have er : (List.map (fun r => rowD w (f r)) (List.range h)).reverse = (List.range h).map fun a => rowD w (f (h - 1 - a)) := by
      apply List.ext_getElem
      · simp
      · intro i h1 h2
        simp at h1 h2 ⊢
    simp_arith [l_turned_in_x1, er]
    rw [comp_all (fun a : Nat => rowD w (f (h - 1 - a))) (fun a => .str [sgn (f (h - 1 - a) r)]) (List.range h) (by simp; omega) fun a ha => ⟨_, _, rfl, ?_⟩]
    · simp_arith []
      rw [join_signs _ _ (by simp; omega)]
      rfl
    · simp_arith [l_turned_in_x2, row_at hr w2]
theorem w_floor_turned (k h w : Nat) (f : Nat → Nat → Bool) (F : Fits h w) : (RE.callF T FU (k+4)).f 13 [flD h w f] = .ok (flD w h fun r c => f (h - 1 - c) r) := by
  rw [c_floor_turned]
  simp_arith [l_floor_turned, w_need_floor k h w f F, w_turned_in (k+2) h w f F]
theorem w_floor_mirrored (k h w : Nat) (f : Nat → Nat → Bool) (F : Fits h w) : (RE.callF T FU (k+4)).f 14 [flD h w f] = .ok (flD h w fun r c => f r (w - 1 - c)) := by
  rw [c_floor_mirrored]
  simp_arith [l_floor_mirrored, w_need_floor k h w f F, w_mirrored_in (k+2) h w f F]
end Lw
end

section
set_option linter.all false
set_option maxRecDepth 100000
set_option maxHeartbeats 4000000
set_option autoImplicit false
/-! WL1: what all laws share: draws, likeness. -/
namespace Lw
open RE
open L2 (atI ixN)
local macro_rules
  | `(tactic| simp_arith [$xs,*]) => `(tactic| simp (disch := first | assumption | omega | decide | (simp; done) | (simp <;> omega) | fail) only [RE.E_con, RE.E_var, RE.E_bvar, RE.E_tup, RE.E_new, RE.E_op, RE.E_and, RE.E_or, RE.E_not, RE.E_ite, RE.E_chain, RE.E_call, RE.E_dic, RE.E_nil, RE.E_cons, RE.E_lst, RE.E_fop, RE.E_fcall, RE.E_comp, RE.E_ival, RE.E_irng, RE.E_ienum, RE.E_izip, RE.E_pur, RE.E_mop, RE.E_mtup, RE.E_mlst, RE.E_mite, RE.E_mnot, RE.E_mand, RE.E_mor, RE.E_mcall, RE.E_io, RE.E_pop, RE.E_popAt, RE.E_mnil, RE.E_mcons, RE.E_rval, RE.E_rown, RE.E_rdic, RE.E_rsnil, RE.E_rscons, RE.E_sname, RE.E_ssub, RE.E_ssub2, RE.E_ssnil, RE.E_sscons, RE.E_pass, RE.E_brk, RE.E_cnt, RE.E_retN, RE.E_frz, RE.E_ret, RE.E_expr, RE.E_set, RE.E_setLL, RE.E_unpack, RE.E_par, RE.E_asg, RE.E_app, RE.E_appF, RE.E_site, RE.E_whl, RE.E_forp, RE.E_forr, RE.E_raise, RE.E_snil, RE.E_scons, RE.K_nx, RE.K_rt, RE.K_bk, RE.K_ct, RE.K_var, RE.K_l1, RE.K_l2, RE.K_l3, RE.K_l4, RE.K_l5, RE.K_ift, RE.K_iff, RE.K_ct1, RE.K_ct2, RE.K_io, RE.K_pop, RE.K_frz, RE.K_frz1, RE.K_fl, RE.K_fll, RE.K_fd, RE.K_ioE, RE.K_frE, RE.K_own, RE.K_ownL, RE.K_ownLL, RE.K_rs, RE.K_rn, RE.K_so1, RE.K_so2, RE.K_b1, RE.K_bm, RE.K_s0, RE.K_s1, RE.K_w0, RE.K_w1, RE.K_o1, RE.K_app, RE.K_appF0, RE.K_appF, RE.C_v, RE.C_i, RE.C_r, RE.K_bok, RE.K_bexc, RE.K_bbad, RE.K_chkt, RE.K_chkf, RE.K_assoc, RE.K_cast, RE.K_setS, RE.O_and1, RE.O_int, RE.O_non, RE.O_lst, RE.O_tup, RE.O_add, RE.O_sub, RE.O_adl, RE.O_adt, RE.O_ads, RE.O_mul, RE.O_fdiv, RE.O_mod, RE.O_neg, RE.O_abs, RE.O_toint, RE.O_lt, RE.O_le, RE.O_gt, RE.O_ge, RE.O_eq, RE.O_ne, RE.O_in, RE.O_notin, RE.O_isN, RE.O_isntN, RE.O_idx, RE.O_get2, RE.O_lenl, RE.O_lent, RE.O_lend, RE.O_lens, RE.O_tuple1, RE.O_tuple2, RE.O_isi, RE.O_join, RE.O_revt, RE.O_revl, RE.O_revs, RE.O_max2, RE.O_min2, RE.O_iI, RE.O_iB, RE.O_iS, RE.O_iT, RE.O_iL, RE.O_iN, RE.O_isNn, RE.O_isNi, RE.O_isNb, RE.O_isNs, RE.O_isNt, RE.O_isNl, RE.O_it1, RE.O_it2, RE.O_its, RE.O_rng1, RE.O_rng2, RE.O_fcat, RE.O_flist1, RE.O_flist2, RE.O_flist3, RE.O_fsort, RE.O_all, RE.O_any, RE.O_sum, RE.O_mulS, RE.O_mulT, RE.O_mulL, RE.O_frep, RE.O_idl, RE.O_idt, RE.O_ids, RE.K_rngN, RE.opEq_int, RE.opEqB, decide_true, decide_false, Int.reduceEq, Int.reduceLT, Int.reduceLE, Bool.bne_true, Bool.bne_false, Bool.true_bne, Bool.false_bne, RE.entry, RE.at_zero, RE.at_one, RE.at_two, List.map_cons, List.map_nil, List.cons_append, List.nil_append, List.getD_cons_zero, List.getD_cons_succ, List.set_cons_zero, List.set_cons_succ, List.length_cons, List.length_nil, List.reduceReplicate, Bool.not_false, Bool.not_true, Bool.and_true, Bool.true_and, Bool.and_false, Bool.false_and, Bool.or_true, Bool.true_or, Bool.or_false, Bool.false_or, beq_self_eq_true, Nat.zero_add, Nat.reduceAdd, Nat.reduceSub, Nat.reduceBEq, bne_self_eq_false, String.reduceBEq, Nat.reduceLeDiff, List.length_map, Int.reduceAdd, Int.reduceSub, Int.reduceNeg, $xs,*])
/-- the state of all draws -/
def Cup (xs : List RE.D) : Prop := ∃ a b : Int, xs = [.int a, .int b] ∧ 0 ≤ a ∧ 0 ≤ b ∧ b < 4294967296
theorem small_r (i j : Int) (h : -(1000000000000 : Int) ≤ j ∧ j ≤ 1000000000000) : (small i || small j) = true := by
  unfold small
  rw [Bool.or_eq_true]
  exact .inr (decide_eq_true (by omega))
theorem small_l (i j : Int) (h : -(1000000000000 : Int) ≤ i ∧ i ≤ 1000000000000) : (small i || small j) = true := by
  unfold small
  rw [Bool.or_eq_true]
  exact .inl (decide_eq_true (by omega))
theorem mul_r (i j : Int) (h : -(1000000000000 : Int) ≤ j ∧ j ≤ 1000000000000) : op .mul [.int i, .int j] = .ok (.int (i * j)) := O_mul i j (small_r i j h)
theorem mul_l (i j : Int) (h : -(1000000000000 : Int) ≤ i ∧ i ≤ 1000000000000) : op .mul [.int i, .int j] = .ok (.int (i * j)) := O_mul i j (small_l i j h)
theorem pow18 : op .pow [.int 10, .int 18] = .ok (.int 1000000000000000000) := by kernel_rfl
theorem w_law_cup (k : Nat) (ns : List Int) (hn : ns.length ≤ 63) : ∃ xs, (RE.callF T FU (k+1)).fr 27 [.scr (ns.map .int)] = .ok xs ∧ Cup xs := by
  obtain ⟨c, hc⟩ : ∃ c : Int, atI (ns.map RE.D.int ++ [.int 0]) 0 = some (.int c) := by
    cases ns with
    | nil => exact ⟨0, at_zero _ _⟩
    | cons n ns => exact ⟨n, at_zero _ _⟩
  rw [c_law_cup]
  have hl : (ns.map RE.D.int).length + [RE.D.int 0].length ≤ 16777216 := by simp; omega
  have hm : ∀ i : Int, op .mul [.int i, .int 283] = .ok (.int (i * 283)) := fun i => mul_r i 283 (by omega)
  simp_arith [l_law_cup, hc, hm, pow18]
  generalize (if c < 0 then -c else c) = d
  have m0 := Int.emod_nonneg (d * 283 + 3907) (b := 2077503167) (by omega)
  have m1 := Int.emod_lt_of_pos (d * 283 + 3907) (b := 2077503167) (by omega)
  by_cases q : (1000000000000000000 : Int) ≤ d
  · rw [decide_eq_true q]
    simp_arith []
    exact ⟨_, rfl, _, _, rfl, by omega, by omega, by omega⟩
  · rw [decide_eq_false q]
    simp_arith []
    exact ⟨_, rfl, _, _, rfl, by omega, by omega, by omega⟩
theorem w_law_roll (k : Nat) (xs : List RE.D) (h : Cup xs) (m : Nat) (h1 : 1 ≤ m) (h2 : m ≤ 1000000) : ∃ (r : Nat) (ys : List RE.D), (RE.callF T FU (k+1)).io 28 xs [.int (m : Int)] = .ok (.int (r : Int), ys) ∧ Cup ys ∧ r < m := by
  obtain ⟨a, b, rfl, a0, b0, b1⟩ := h
  rw [c_law_roll]
  have i0 : ixN (0 + 1 + 1) 0 = some 0 := rfl
  have i1 : ixN (0 + 1 + 1) 1 = some 1 := rfl
  by_cases q : 0 < a
  · simp_arith [l_law_roll, decide_eq_true q, putSub, i0, List.set_cons_zero]
    have m0 := Int.emod_nonneg a (b := (m : Int)) (by omega)
    have m1 := Int.emod_lt_of_pos a (b := (m : Int)) (by omega)
    refine ⟨(a % (m : Int)).toNat, [.int (a / (m : Int)), .int b], ?_, ⟨_, _, rfl, Int.ediv_nonneg a0 (by omega), b0, b1⟩, by omega⟩
    rw [Int.toNat_of_nonneg m0]
  · have hm : op .mul [.int b, .int 31051] = .ok (.int (b * 31051)) := mul_r b 31051 (by omega)
    have n0 := Int.emod_nonneg (b * 31051 + 7993) (b := 2147483543) (by omega)
    have n1 := Int.emod_lt_of_pos (b * 31051 + 7993) (b := 2147483543) (by omega)
    simp_arith [l_law_roll, decide_eq_false q, putSub, i1, hm]
    generalize (b * 31051 + 7993) % 2147483543 = d at n0 n1
    have hm2 : op .mul [.int d, .int (d + 229)] = .ok (.int (d * (d + 229))) := mul_l d (d + 229) (by omega)
    simp_arith [hm2]
    generalize (d * (d + 229)) % 2147483587 / 821 = e
    have m0 := Int.emod_nonneg e (b := (m : Int)) (by omega)
    have m1 := Int.emod_lt_of_pos e (b := (m : Int)) (by omega)
    refine ⟨(e % (m : Int)).toNat, _, ?_, ⟨_, _, rfl, a0, n0, by omega⟩, by omega⟩
    rw [Int.toNat_of_nonneg m0]
/-! ### likeness -/
/-- plain data, at most so deep -/
def lk : Nat → RE.D → Bool
  | _, .non => true
  | _, .bl _ => true
  | _, .int _ => true
  | _, .str x => okS x
  | n + 1, .tup xs => decide (xs.length ≤ 16777216) && xs.all (lk n)
  | n + 1, .lst xs => decide (xs.length ≤ 16777216) && xs.all (lk n)
  | _, _ => false
theorem zip_self (xs : List RE.D) : zipL xs xs = xs.map fun x => .tup [x, x] := by
  induction xs with
  | nil => rfl
  | cons x xs ih =>
    show RE.D.tup [x, x] :: zipL xs xs = _
    rw [ih]
    rfl
theorem opEq_nil (neg : Bool) : opEq neg (.lst []) (.lst []) = .ok (.bl (neg != true)) := rfl
theorem w_law_like : ∀ (n k : Nat) (d : RE.D), lk n d = true → (RE.callF T FU (k+n+2)).f 30 [d, d] = .ok (.bl true)
  | n, k, .non, h => by
    rw [c_law_like, T_eq]
    kernel_rfl
  | n, k, .bl b, h => by
    rw [c_law_like, T_eq]
    cases b <;> kernel_rfl
  | n, k, .int i, h => by
    rw [c_law_like]
    have : (RE.callF T FU (k+n+1)).f 29 [.int i] = .ok (.int 2) := by rw [c_law_sort, T_eq]; kernel_rfl
    have i1 : opIn false (.int 2) (.tup [.int 4, .int 5]) = .ok (.bl false) := rfl
    simp_arith [l_law_like, this, i1]
  | n, k, .str x, h => by
    have h : okS x = true := by cases n <;> exact h
    rw [c_law_like]
    have : (RE.callF T FU (k+n+1)).f 29 [.str x] = .ok (.int 3) := by rw [c_law_sort, T_eq]; kernel_rfl
    have i1 : opIn false (.int 3) (.tup [.int 4, .int 5]) = .ok (.bl false) := rfl
    simp_arith [l_law_like, this, i1, opEq_str h h]
  | n + 1, k, .tup xs, h => by
    have h : (decide (xs.length ≤ 16777216) && xs.all (lk n)) = true := h
    rw [Bool.and_eq_true, List.all_eq_true] at h
    have hl := of_decide_eq_true h.1
    have hi : inLim xs.length = true := inLim_ok hl
    rw [show k + (n + 1) + 2 = (k + n + 2) + 1 by omega, c_law_like]
    have : (RE.callF T FU (k+n+2)).f 29 [.tup xs] = .ok (.int 4) := by rw [c_law_sort, T_eq]; kernel_rfl
    have i1 : opIn false (.int 4) (.tup [.int 4, .int 5]) = .ok (.bl true) := rfl
    have hz : zipD [.tup xs, .tup xs] = .ok (xs.map fun x => .tup [x, x]) := by
      show Out.ok (zipL xs xs) = _
      rw [zip_self]
    simp_arith [l_law_like, this, i1, hz]
    rw [comp_ok (fun x => RE.D.tup [x, x]) (fun _ => false) (fun _ => .int 1) xs hl fun x hx => ⟨_, rfl, ?_, fun z => nomatch z⟩]
    · rw [show xs.filter (fun _ => false) = [] by simp]
      simp_arith [opEq_nil]
    · have := w_law_like n k x (h.2 x hx)
      simp_arith [l_law_like_y1, this]
  | n + 1, k, .lst xs, h => by
    have h : (decide (xs.length ≤ 16777216) && xs.all (lk n)) = true := h
    rw [Bool.and_eq_true, List.all_eq_true] at h
    have hl := of_decide_eq_true h.1
    have hi : inLim xs.length = true := inLim_ok hl
    rw [show k + (n + 1) + 2 = (k + n + 2) + 1 by omega, c_law_like]
    have : (RE.callF T FU (k+n+2)).f 29 [.lst xs] = .ok (.int 5) := by rw [c_law_sort, T_eq]; kernel_rfl
    have i1 : opIn false (.int 5) (.tup [.int 4, .int 5]) = .ok (.bl true) := rfl
    have hz : zipD [.lst xs, .lst xs] = .ok (xs.map fun x => .tup [x, x]) := by
      show Out.ok (zipL xs xs) = _
      rw [zip_self]
    simp_arith [l_law_like, this, i1, hz]
    rw [comp_ok (fun x => RE.D.tup [x, x]) (fun _ => false) (fun _ => .int 1) xs hl fun x hx => ⟨_, rfl, ?_, fun z => nomatch z⟩]
    · rw [show xs.filter (fun _ => false) = [] by simp]
      simp_arith [opEq_nil]
    · have := w_law_like n k x (h.2 x hx)
      simp_arith [l_law_like_y1, this]
  | 0, k, .tup xs, h => by cases h
  | 0, k, .lst xs, h => by cases h
  | n, k, .dic _ _, h => by cases n <;> cases h
  | n, k, .set _, h => by cases n <;> cases h
  | n, k, .fn _, h => by cases n <;> cases h
  | n, k, .ty _, h => by cases n <;> cases h
  | n, k, .scr _, h => by cases n <;> cases h
end Lw
end

section
set_option linter.all false
set_option maxRecDepth 100000
set_option maxHeartbeats 4000000
set_option autoImplicit false
/-! WL2: the laws' floors. -/
namespace Lw
open RE
open L2 (atI ixN)
local macro_rules
  | `(tactic| simp_arith [$xs,*]) => `(tactic| simp (disch := first | assumption | omega | decide | (simp; done) | (simp <;> omega) | fail) only [RE.E_con, RE.E_var, RE.E_bvar, RE.E_tup, RE.E_new, RE.E_op, RE.E_and, RE.E_or, RE.E_not, RE.E_ite, RE.E_chain, RE.E_call, RE.E_dic, RE.E_nil, RE.E_cons, RE.E_lst, RE.E_fop, RE.E_fcall, RE.E_comp, RE.E_ival, RE.E_irng, RE.E_ienum, RE.E_izip, RE.E_pur, RE.E_mop, RE.E_mtup, RE.E_mlst, RE.E_mite, RE.E_mnot, RE.E_mand, RE.E_mor, RE.E_mcall, RE.E_io, RE.E_pop, RE.E_popAt, RE.E_mnil, RE.E_mcons, RE.E_rval, RE.E_rown, RE.E_rdic, RE.E_rsnil, RE.E_rscons, RE.E_sname, RE.E_ssub, RE.E_ssub2, RE.E_ssnil, RE.E_sscons, RE.E_pass, RE.E_brk, RE.E_cnt, RE.E_retN, RE.E_frz, RE.E_ret, RE.E_expr, RE.E_set, RE.E_setLL, RE.E_unpack, RE.E_par, RE.E_asg, RE.E_app, RE.E_appF, RE.E_site, RE.E_whl, RE.E_forp, RE.E_forr, RE.E_raise, RE.E_snil, RE.E_scons, RE.K_nx, RE.K_rt, RE.K_bk, RE.K_ct, RE.K_var, RE.K_l1, RE.K_l2, RE.K_l3, RE.K_l4, RE.K_l5, RE.K_ift, RE.K_iff, RE.K_ct1, RE.K_ct2, RE.K_io, RE.K_pop, RE.K_frz, RE.K_frz1, RE.K_fl, RE.K_fll, RE.K_fd, RE.K_ioE, RE.K_frE, RE.K_own, RE.K_ownL, RE.K_ownLL, RE.K_rs, RE.K_rn, RE.K_so1, RE.K_so2, RE.K_b1, RE.K_bm, RE.K_s0, RE.K_s1, RE.K_w0, RE.K_w1, RE.K_o1, RE.K_app, RE.K_appF0, RE.K_appF, RE.C_v, RE.C_i, RE.C_r, RE.K_bok, RE.K_bexc, RE.K_bbad, RE.K_chkt, RE.K_chkf, RE.K_assoc, RE.K_cast, RE.K_setS, RE.O_and1, RE.O_int, RE.O_non, RE.O_lst, RE.O_tup, RE.O_add, RE.O_sub, RE.O_adl, RE.O_adt, RE.O_ads, RE.O_mul, RE.O_fdiv, RE.O_mod, RE.O_neg, RE.O_abs, RE.O_toint, RE.O_lt, RE.O_le, RE.O_gt, RE.O_ge, RE.O_eq, RE.O_ne, RE.O_in, RE.O_notin, RE.O_isN, RE.O_isntN, RE.O_idx, RE.O_get2, RE.O_lenl, RE.O_lent, RE.O_lend, RE.O_lens, RE.O_tuple1, RE.O_tuple2, RE.O_isi, RE.O_join, RE.O_revt, RE.O_revl, RE.O_revs, RE.O_max2, RE.O_min2, RE.O_iI, RE.O_iB, RE.O_iS, RE.O_iT, RE.O_iL, RE.O_iN, RE.O_isNn, RE.O_isNi, RE.O_isNb, RE.O_isNs, RE.O_isNt, RE.O_isNl, RE.O_it1, RE.O_it2, RE.O_its, RE.O_rng1, RE.O_rng2, RE.O_fcat, RE.O_flist1, RE.O_flist2, RE.O_flist3, RE.O_fsort, RE.O_all, RE.O_any, RE.O_sum, RE.O_mulS, RE.O_mulT, RE.O_mulL, RE.O_frep, RE.O_idl, RE.O_idt, RE.O_ids, RE.K_rngN, RE.opEq_int, RE.opEqB, decide_true, decide_false, Int.reduceEq, Int.reduceLT, Int.reduceLE, Bool.bne_true, Bool.bne_false, Bool.true_bne, Bool.false_bne, RE.entry, RE.at_zero, RE.at_one, RE.at_two, List.map_cons, List.map_nil, List.cons_append, List.nil_append, List.getD_cons_zero, List.getD_cons_succ, List.set_cons_zero, List.set_cons_succ, List.length_cons, List.length_nil, List.reduceReplicate, Bool.not_false, Bool.not_true, Bool.and_true, Bool.true_and, Bool.and_false, Bool.false_and, Bool.or_true, Bool.true_or, Bool.or_false, Bool.false_or, beq_self_eq_true, Nat.zero_add, Nat.reduceAdd, Nat.reduceSub, Nat.reduceBEq, bne_self_eq_false, String.reduceBEq, Nat.reduceLeDiff, List.length_map, Int.reduceAdd, Int.reduceSub, Int.reduceNeg, $xs,*])
def tabS (h w : Nat) (g : Nat → Nat → Bool) : List (List RE.D) := grL h w fun a b => .str [sgn (g a b)]
theorem tabS_set {env : RE.Env} {i h w a b : Nat} {g : Nat → Nat → Bool} (ha : a < h) (hb : b < w) : putSub2 env i (.str [35]) (.int (a : Int)) (.int (b : Int)) (.own (.lls (tabS h w g))) = .ok (env.set i (.own (.lls (tabS h w fun x y => if x = a ∧ y = b then false else g x y)))) := by
  unfold tabS
  rw [putSub2_gr ha hb]
  congr 4
  refine grL_congr fun x y _ _ => ?_
  by_cases e : x = a ∧ y = b
  · simp [e, sgn]
  · simp [e]
theorem tabS_set0 {env : RE.Env} {i h w : Nat} {g : Nat → Nat → Bool} (ha : 0 < h) (hb : 0 < w) : putSub2 env i (.str [35]) (.int 0) (.int 0) (.own (.lls (tabS h w g))) = .ok (env.set i (.own (.lls (tabS h w fun x y => if x = 0 ∧ y = 0 then false else g x y)))) := tabS_set (a := 0) (b := 0) ha hb
theorem tabS_end (cl : Cl) (elt : P) (i j h w : Nat) (g : Nat → Nat → Bool) (hw : w ≤ 1000000) (hh : h ≤ 1000000) (env : RE.Env) (he : ∀ d : RE.D, ∃ s e1, env.set i (.val d) = s :: e1 ∧ ev cl elt (s :: e1) = opJoin (.str []) d) :
    compK cl elt (.con (.bl true)) (.one i) env ((tabS h w g).map RE.D.lst) = .ok ((List.range h).map fun r => rowD w (g r)) := by
  have eg : (tabS h w g).map RE.D.lst = (List.range h).map fun a => .lst ((List.range w).map fun b => .str [sgn (g a b)]) := by
    unfold tabS grL
    rw [List.map_map]
    rfl
  rw [eg, comp_all (fun a : Nat => RE.D.lst ((List.range w).map fun b => .str [sgn (g a b)])) (fun a => rowD w (g a)) (List.range h) (by simp; omega) fun a ha => ?_]
  obtain ⟨s, e1, h1, h2⟩ := he (RE.D.lst ((List.range w).map fun b => .str [sgn (g a b)]))
  refine ⟨s, e1, by rw [K_b1, h1], ?_⟩
  rw [h2, join_signs _ _ (by simp; omega)]
  rfl
theorem tabS_row (i w : Nat) : tabS i w (fun _ _ => true) ++ [(List.range w).map fun _ => .str [46]] = tabS (i + 1) w fun _ _ => true := by
  unfold tabS grL
  rw [List.range_succ, List.map_append]
  rfl
theorem w_law_floor (k : Nat) (xs : List RE.D) (hx : Cup xs) (rows cols holes : Nat) (r1 : 1 ≤ rows) (r2 : rows ≤ 1000) (c1 : 1 ≤ cols) (c2 : cols ≤ 1000) (h2 : holes ≤ 1000) :
    ∃ (h w : Nat) (f : Nat → Nat → Bool) (ys : List RE.D), (RE.callF T FU (k+2)).io 31 xs [.int (rows : Int), .int (cols : Int), .int (holes : Int)] = .ok (flD h w f, ys) ∧ Cup ys ∧ 1 ≤ h ∧ h ≤ rows ∧ 1 ≤ w ∧ w ≤ cols := by
  rw [c_law_floor]
  obtain ⟨a, x1, ea, hx1, la⟩ := w_law_roll k xs hx rows r1 (by omega)
  obtain ⟨b, x2, eb, hx2, lb⟩ := w_law_roll k x1 hx1 cols c1 (by omega)
  obtain ⟨way, x3, ew, hx3, lw⟩ := w_law_roll k x2 hx2 3 (by omega) (by omega)
  have ea1 : (1 : Int) + (a : Int) = ((a + 1 : Nat) : Int) := by omega
  have eb1 : (1 : Int) + (b : Int) = ((b + 1 : Nat) : Int) := by omega
  have ew : (RE.callF T FU (k+1)).io 28 x2 [.int 3] = .ok (.int (way : Int), x3) := ew
  obtain ⟨h, eh⟩ : ∃ h, h = a + 1 := ⟨_, rfl⟩
  obtain ⟨w, eW⟩ : ∃ w, w = b + 1 := ⟨_, rfl⟩
  rw [← eh] at ea1
  rw [← eW] at eb1
  simp_arith [l_law_floor, ea, eb, ew, ea1, eb1]
  -- the table without holes
  obtain ⟨e2, g1, z, rfl⟩ := for_rng (body := RE.execs (callF T FU (k+1)) FU l_law_floor_b1) (tg := .one 4) (fun i env => ∃ z, env = [Slot.own (.lst x3), .val (.int rows), .val (.int cols), .val (.int holes), z, .no, .val (.int (h : Int)), .val (.int (w : Int)), .own (if i = 0 then .lst [] else .lls (tabS i w fun _ _ => true)), .val (.int way), .no, .no]) h (by
    rintro i env hi ⟨z, rfl⟩
    refine ⟨_, rfl, ?_⟩
    simp_arith [l_law_floor_b1, repL_one]
    rcases i with _ | i
    · rw [if_pos rfl, if_neg (by omega), K_appF0]
      simp_arith []
      exact ⟨_, rfl, _, rfl⟩
    · rw [if_neg (by omega), if_neg (by omega), K_appF _ _ _ _ (by simp [tabS, grL]; omega), tabS_row]
      simp_arith []
      exact ⟨_, rfl, _, rfl⟩) (env := [Slot.own (.lst x3), .val (.int rows), .val (.int cols), .val (.int holes), .no, .no, .val (.int (h : Int)), .val (.int (w : Int)), .own (.lst []), .val (.int way), .no, .no]) ⟨_, rfl⟩
  rw [g1, if_neg (by omega)]
  simp_arith []
  -- how many holes
  obtain ⟨n, x4, g2, hx4, ln⟩ : ∃ (n : Nat) (x4 : List RE.D), RE.runs (callF T FU (k+1)) l_law_floor_r2 [Slot.own (.lst x3), .val (.int rows), .val (.int cols), .val (.int holes), z, .no, .val (.int (h : Int)), .val (.int (w : Int)), .own (.lls (tabS h w fun _ _ => true)), .val (.int way), .no, .no] = .ok ([.int (n : Int)], [Slot.own (.lst x4), .val (.int rows), .val (.int cols), .val (.int holes), z, .no, .val (.int (h : Int)), .val (.int (w : Int)), .own (.lls (tabS h w fun _ _ => true)), .val (.int way), .no, .no]) ∧ Cup x4 ∧ n ≤ 1000 := by
    by_cases q : (0 : Int) < (way : Int)
    · obtain ⟨n, x4, e4, hx4, ln⟩ := w_law_roll k x3 hx3 (holes + 1) (by omega) (by omega)
      have eh1 : (holes : Int) + 1 = ((holes + 1 : Nat) : Int) := by omega
      refine ⟨n, x4, ?_, hx4, by omega⟩
      simp_arith [l_law_floor_r2, decide_eq_true q, eh1, e4]
    · refine ⟨0, x3, ?_, hx3, by omega⟩
      simp_arith [l_law_floor_r2, decide_eq_false q]
  rw [g2]
  simp_arith []
  obtain ⟨e2, g3, z1, z2, z3, x5, g, rfl, hx5⟩ := for_rng (body := RE.execs (callF T FU (k+1)) FU l_law_floor_b2) (tg := .one 5) (fun i env => ∃ z1 z2 z3 x5 g, env = [Slot.own (.lst x5), .val (.int rows), .val (.int cols), .val (.int holes), z1, z2, .val (.int (h : Int)), .val (.int (w : Int)), .own (.lls (tabS h w g)), .val (.int way), z3, .no] ∧ Cup x5) n (by
    rintro i env hi ⟨z1, z2, z3, x5, g, rfl, hx5⟩
    refine ⟨_, rfl, ?_⟩
    obtain ⟨p, x6, e6, hx6, lp⟩ := w_law_roll k x5 hx5 h (by omega) (by omega)
    obtain ⟨q, x7, e7, hx7, lq⟩ := w_law_roll k x6 hx6 w (by omega) (by omega)
    simp_arith [l_law_floor_b2, e6, e7, tabS_set lp lq]
    exact ⟨_, rfl, _, _, _, _, _, rfl, hx7⟩) (env := [Slot.own (.lst x4), .val (.int rows), .val (.int cols), .val (.int holes), z, .no, .val (.int (h : Int)), .val (.int (w : Int)), .own (.lls (tabS h w fun _ _ => true)), .val (.int way), .no, .no]) ⟨_, _, _, _, _, rfl, hx4⟩
  rw [g3]
  by_cases q : (way : Int) = 2
  · have e1 : (h : Int) - 1 = ((h - 1 : Nat) : Int) := by omega
    have e2 : (w : Int) - 1 = ((w - 1 : Nat) : Int) := by omega
    simp_arith [q, e1, e2, tabS_set0 (show 0 < h by omega) (show 0 < w by omega), tabS_set (show h - 1 < h by omega) (show w - 1 < w by omega)]
    rw [tabS_end _ _ _ 11 h w _ (by omega) (by omega) _ fun d => ⟨_, _, rfl, by simp_arith [l_law_floor_x1]⟩]
    exact ⟨h, w, _, x5, rfl, hx5, by omega, by omega, by omega, by omega⟩
  · simp_arith [q]
    rw [tabS_end _ _ _ 11 h w g (by omega) (by omega) _ fun d => ⟨_, _, rfl, by simp_arith [l_law_floor_x1]⟩]
    exact ⟨h, w, g, x5, rfl, hx5, by omega, by omega, by omega, by omega⟩
theorem w_law_squares (k h w : Nat) (f : Nat → Nat → Bool) (F : Fits h w) : (RE.callF T FU (k+1)).f 32 [flD h w f] = .ok (.lst (sqlD (sqL h w f))) := by
  obtain ⟨h1, h2, w1, w2⟩ := F
  rw [c_law_squares]
  unfold flD
  simp_arith [l_law_squares]
  rw [enum_rows]
  refine for_then (for_enum (fun r => rowD w (f r)) (fun i env => ∃ a b c t, env = [Slot.val (.tup ((List.range h).map fun r => rowD w (f r))), .val (.lst t), a, b, c] ∧ t = sqlD (sqL i w f)) h ?_ ⟨_, _, _, _, rfl, rfl⟩) ?_
  · rintro i env hi ⟨a, b, c, t, rfl, rfl⟩
    refine ⟨_, rfl, ?_⟩
    simp_arith [l_law_squares_b1, len_row w2]
    rw [comp_ok (fun c : Nat => RE.D.int (c : Int)) (fun c => f i c) (fun c => plD i c) (List.range w) (by simp; omega) fun c hc => ⟨_, rfl, ?_, fun _ => ?_⟩]
    · have hl : (sqlD (sqL i w f)).length + (((List.range w).filter fun c => f i c).map fun c => plD i c).length ≤ 16777216 := by
        rw [sqlD_len, List.length_map]
        have h1 := range_len_sqL i w f
        have h2 := List.length_filter_le (fun c => f i c) (List.range w)
        have h3 : i * w ≤ 12 * 12 := Nat.mul_le_mul (by omega) w2
        rw [List.length_range] at h2
        omega
      simp_arith []
      refine ⟨_, rfl, _, _, _, _, rfl, ?_⟩
      rw [sqL_succ]
      unfold sqlD
      rw [List.map_append, List.map_map]
      rfl
    · have := List.mem_range.mp hc
      simp_arith [l_law_squares_y1, row_at this w2, sign_eq]
    · simp_arith [l_law_squares_x1]
      rfl
  · rintro e2 ⟨a, b, c, t, rfl, rfl⟩
    simp_arith []
theorem w_law_words (k : Nat) : (RE.callF T FU (k+1)).f 33 [] = .ok (.tup (wdsD Wd.all)) := by
  rw [c_law_words, T_eq]
  kernel_rfl
theorem w_law_goes (k : Nat) (x : Wd) {h w r c : Nat} (hr : r < h) (hc : c < w) : (RE.callF T FU (k+1)).f 34 [.int (h : Int), .int (w : Int), x.d, .tup [.int (r : Int), .int (c : Int)]] = .ok (.tup [.int ((x.go h w (r, c)).1 : Int), .int ((x.go h w (r, c)).2 : Int)]) := by
  rw [c_law_goes]
  have e1 : ((h : Int) - 1 - (r : Int)) = ((h - 1 - r : Nat) : Int) := by omega
  have e2 : ((w : Int) - 1 - (c : Int)) = ((w - 1 - c : Nat) : Int) := by omega
  have e3 : ((h : Int) - 1 - ((h : Int) - 1 - (r : Int))) = (r : Int) := by omega
  have e4 : ((w : Int) - 1 - ((w : Int) - 1 - (c : Int))) = (c : Int) := by omega
  have key : RE.callV (callF T FU k) FU l_law_goes [.int (h : Int), .int (w : Int), x.d, .tup [.int (r : Int), .int (c : Int)]] = .ok (match x with
      | .back => .tup [.int ((w : Int) - 1 - (c : Int)), .int ((h : Int) - 1 - (r : Int))]
      | .flat => .tup [.int (r : Int), .int ((w : Int) - 1 - (c : Int))]
      | .half => .tup [.int ((h : Int) - 1 - (r : Int)), .int ((w : Int) - 1 - (c : Int))]
      | .quarter => .tup [.int (c : Int), .int ((h : Int) - 1 - (r : Int))]
      | .slant => .tup [.int ((w : Int) - 1 - ((w : Int) - 1 - (c : Int))), .int ((h : Int) - 1 - ((h : Int) - 1 - (r : Int)))]
      | .stay => .tup [.int (r : Int), .int (c : Int)]
      | .threequarter => .tup [.int ((w : Int) - 1 - (c : Int)), .int ((h : Int) - 1 - ((h : Int) - 1 - (r : Int)))]
      | .upright => .tup [.int ((h : Int) - 1 - (r : Int)), .int ((w : Int) - 1 - ((w : Int) - 1 - (c : Int)))]) := by
    cases x <;> kernel_rfl
  rw [key, e3, e4, e1, e2]
  cases x <;> rfl
def plP (p : Nat × Nat) : RE.D := plD p.1 p.2
theorem enc_pl : Enc plP := fun x y => by
  unfold plP plD
  rw [enc_sq]
  exact ⟨fun e => sqI_inj e, fun e => by rw [e]⟩
theorem key_pl (p : Nat × Nat) : keyOf true (plP p) = true := key_sq _
/-- what the dict of a floor turned holds on the way -/
def tfM (x : Wd) (h w : Nat) (f : Nat → Nat → Bool) (done : Nat → Nat → Bool) (p : Nat × Nat) : Option RE.D :=
  if p.1 < x.h' h w ∧ p.2 < x.w' h w ∧ done (x.from' h w p).1 (x.from' h w p).2 = true then some (.str [sgn (x.tf h w f p.1 p.2)]) else none
theorem tfM_step (x : Wd) {h w : Nat} (f : Nat → Nat → Bool) {r c : Nat} (hr : r < h) (hc : c < w) (done done' : Nat → Nat → Bool) (e : ∀ r' c', done' r' c' = (done r' c' || (r' == r && c' == c))) (p : Nat × Nat) :
    (if p = x.go h w (r, c) then some (.str [sgn (f r c)]) else tfM x h w f done p) = tfM x h w f done' p := by
  have gl := Wd.go_lt x (p := (r, c)) hr hc
  by_cases q : p = x.go h w (r, c)
  · rw [if_pos q]
    subst q
    unfold tfM Wd.tf
    rw [Wd.from_go x hr hc, if_pos ⟨gl.1, gl.2, by rw [e]; simp⟩]
  · rw [if_neg q]
    unfold tfM
    by_cases b : p.1 < x.h' h w ∧ p.2 < x.w' h w
    · have : ¬ ((x.from' h w p).1 = r ∧ (x.from' h w p).2 = c) := fun z => q (by
        have z : x.from' h w p = (r, c) := Prod.ext z.1 z.2
        rw [← z, Wd.go_from x b.1 b.2])
      have : ((x.from' h w p).1 == r && (x.from' h w p).2 == c) = false := by simpa using this
      rw [e, this, Bool.or_false]
    · rw [if_neg fun z => b ⟨z.1, z.2.1⟩, if_neg fun z => b ⟨z.1, z.2.1⟩]
theorem w_law_turned_floor (k h w : Nat) (f : Nat → Nat → Bool) (F : Fits h w) (x : Wd) : (RE.callF T FU (k+2)).f 35 [flD h w f, x.d] = .ok (flD (x.h' h w) (x.w' h w) (x.tf h w f)) := by
  obtain ⟨t1, t2, t3, t4⟩ := F.turn x
  have e0 := fl_row0 (f := f) F
  obtain ⟨h1, h2, w1, w2⟩ := F
  rw [c_law_turned_floor]
  unfold flD
  have hin : op .isin [x.d, .tup [.str [98, 97, 99, 107], .str [113, 117, 97, 114, 116, 101, 114], .str [115, 108, 97, 110, 116], .str [116, 104, 114, 101, 101, 113, 117, 97, 114, 116, 101, 114]]] = .ok (.bl x.xc) := by cases x <;> rfl
  simp_arith [l_law_turned_floor, e0, len_row w2, List.length_range]
  refine for_then (for_rng (fun r env => ∃ a b c d kvs, env = [Slot.val (.tup ((List.range h).map fun r => rowD w (f r))), .val x.d, a, .val (.int h), .val (.int w), .own (.dic true kvs), b, c, d] ∧ DicR plP kvs (tfM x h w f fun r' c' => decide (r' < r)) (r * w)) h ?_ ⟨_, _, _, _, _, rfl, ?_⟩) ?_
  · rintro r env hr ⟨a, b, c, d, kvs, rfl, hd⟩
    refine ⟨_, rfl, ?_⟩
    simp_arith [l_law_turned_floor_b1]
    refine for_then2 (for_rng (fun c' env => ∃ b c d kvs, env = [Slot.val (.tup ((List.range h).map fun r => rowD w (f r))), .val x.d, .val (.int r), .val (.int h), .val (.int w), .own (.dic true kvs), b, c, d] ∧ DicR plP kvs (tfM x h w f fun a b => decide (a < r ∨ (a = r ∧ b < c'))) (r * w + c')) w ?_ ⟨_, _, _, _, rfl, ?_⟩) ?_
    · rintro c' env hc ⟨b, c, d, kvs, rfl, hd⟩
      refine ⟨_, rfl, ?_⟩
      have gl := Wd.go_lt x (p := (r, c')) hr hc
      have er := flD_row (w := w) (f := f) hr
      have hlen : kvs.length + 1 ≤ 16777216 := by
        have := hd.len
        have : r * w ≤ 12 * 12 := Nat.mul_le_mul (by omega) w2
        omega
      have hp := fun env => putSub_dic (t := true) (kvs := kvs) (env := env) (i := 5) (d := .str [sgn (f r c')]) (key_pl (x.go h w (r, c'))) hlen
      have hg := w_law_goes k x hr hc
      rw [← plD_def] at hg
      have hg : (RE.callF T FU (k+1)).f 34 [.int (h : Int), .int (w : Int), x.d, .tup [.int (r : Int), .int (c' : Int)]] = .ok (plP (x.go h w (r, c'))) := hg
      simp_arith [l_law_turned_floor_b2, hg, er, row_at hc w2, hp]
      refine ⟨_, rfl, _, _, _, _, rfl, ?_⟩
      exact (hd.put enc_pl (x.go h w (r, c')) (.str [sgn (f r c')])).congr fun p => tfM_step x f hr hc _ _ (fun a b => by
        rw [Bool.eq_iff_iff]
        simp
        omega) p
    · refine hd.congr fun p => ?_
      unfold tfM
      simp
    · rintro e2 ⟨b, c, d, kvs, rfl, hd⟩
      simp_arith []
      refine ⟨_, rfl, _, _, _, _, _, rfl, ?_⟩
      have e : r * w + w = (r + 1) * w := (Nat.succ_mul r w).symm
      rw [← e]
      refine hd.congr fun p => ?_
      unfold tfM
      by_cases b : p.1 < x.h' h w ∧ p.2 < x.w' h w
      · have hf := Wd.from_lt x b.1 b.2
        have : decide ((x.from' h w p).1 < r ∨ (x.from' h w p).1 = r ∧ (x.from' h w p).2 < w) = decide ((x.from' h w p).1 < r + 1) := by
          rw [Bool.eq_iff_iff]
          simp
          omega
        simp only [this]
      · rw [if_neg fun z => b ⟨z.1, z.2.1⟩, if_neg fun z => b ⟨z.1, z.2.1⟩]
  · refine (DicR.nil.congr fun p => ?_).mono (Nat.zero_le _)
    unfold tfM
    simp
  · rintro e2 ⟨a, b, c, d, kvs, rfl, hd⟩
    have hsides : (RE.ifK (some x.xc) (Out.ok (RE.D.tup [.int (w : Int), .int (h : Int)])) (Out.ok (RE.D.tup [.int (h : Int), .int (w : Int)]))) = Out.ok (RE.D.tup [.int (x.h' h w : Int), .int (x.w' h w : Int)]) := by
      cases x <;> rfl
    simp_arith [hin]
    rw [hsides]
    simp_arith []
    rw [comp_all (fun a : Nat => RE.D.int (a : Int)) (fun a => rowD (x.w' h w) (x.tf h w f a)) (List.range (x.h' h w)) (by simp; omega) fun a ha => ⟨_, _, rfl, ?_⟩]
    · simp_arith []
    · simp_arith [l_law_turned_floor_x1]
      rw [comp_all (fun b : Nat => RE.D.int (b : Int)) (fun b => .str [sgn (x.tf h w f a b)]) (List.range (x.w' h w)) (by simp; omega) fun b hb => ⟨_, _, rfl, ?_⟩]
      · simp_arith []
        rw [join_signs _ _ (by simp; omega)]
        rfl
      · have ha := List.mem_range.mp ha
        have hb := List.mem_range.mp hb
        have hf := Wd.from_lt x (p := (a, b)) ha hb
        have := hd.idx (t := true) (k := (a, b)) (key_pl _) (v := .str [sgn (x.tf h w f a b)]) (by
          unfold tfM
          rw [if_pos ⟨ha, hb, decide_eq_true hf.1⟩])
        have : opIdx (.dic true kvs) (.tup [.int (a : Int), .int (b : Int)]) = .ok (.str [sgn (x.tf h w f a b)]) := this
        simp_arith [l_law_turned_floor_x2, this]
theorem w_law_own_words (k h w : Nat) (f : Nat → Nat → Bool) (F : Fits h w) : (RE.callF T FU (k+3)).f 36 [flD h w f] = .ok (.lst (wdsD (ownL h w f))) := by
  rw [c_law_own_words]
  simp_arith [l_law_own_words, w_law_words]
  unfold wdsD
  rw [comp_ok Wd.d (leavesB h w f) Wd.d Wd.all (by decide) fun x _ => ⟨_, rfl, ?_, fun _ => ?_⟩]
  · simp_arith []
    rfl
  · simp_arith [l_law_own_words_y1, w_law_turned_floor (k := k) (F := F), opEq_fl]
    rfl
  · simp_arith [l_law_own_words_x1]
end Lw
end

section
set_option linter.all false
set_option maxRecDepth 100000
set_option maxHeartbeats 4000000
set_option autoImplicit false
/-! WL3: even floors; the law about turn words. -/
namespace Lw
open RE
open L2 (atI ixN)
local macro_rules
  | `(tactic| simp_arith [$xs,*]) => `(tactic| simp (disch := first | assumption | omega | decide | (simp; done) | (simp <;> omega) | fail) only [RE.E_con, RE.E_var, RE.E_bvar, RE.E_tup, RE.E_new, RE.E_op, RE.E_and, RE.E_or, RE.E_not, RE.E_ite, RE.E_chain, RE.E_call, RE.E_dic, RE.E_nil, RE.E_cons, RE.E_lst, RE.E_fop, RE.E_fcall, RE.E_comp, RE.E_ival, RE.E_irng, RE.E_ienum, RE.E_izip, RE.E_pur, RE.E_mop, RE.E_mtup, RE.E_mlst, RE.E_mite, RE.E_mnot, RE.E_mand, RE.E_mor, RE.E_mcall, RE.E_io, RE.E_pop, RE.E_popAt, RE.E_mnil, RE.E_mcons, RE.E_rval, RE.E_rown, RE.E_rdic, RE.E_rsnil, RE.E_rscons, RE.E_sname, RE.E_ssub, RE.E_ssub2, RE.E_ssnil, RE.E_sscons, RE.E_pass, RE.E_brk, RE.E_cnt, RE.E_retN, RE.E_frz, RE.E_ret, RE.E_expr, RE.E_set, RE.E_setLL, RE.E_unpack, RE.E_par, RE.E_asg, RE.E_app, RE.E_appF, RE.E_site, RE.E_whl, RE.E_forp, RE.E_forr, RE.E_raise, RE.E_snil, RE.E_scons, RE.K_nx, RE.K_rt, RE.K_bk, RE.K_ct, RE.K_var, RE.K_l1, RE.K_l2, RE.K_l3, RE.K_l4, RE.K_l5, RE.K_ift, RE.K_iff, RE.K_ct1, RE.K_ct2, RE.K_io, RE.K_pop, RE.K_frz, RE.K_frz1, RE.K_fl, RE.K_fll, RE.K_fd, RE.K_ioE, RE.K_frE, RE.K_own, RE.K_ownL, RE.K_ownLL, RE.K_rs, RE.K_rn, RE.K_so1, RE.K_so2, RE.K_b1, RE.K_bm, RE.K_s0, RE.K_s1, RE.K_w0, RE.K_w1, RE.K_o1, RE.K_app, RE.K_appF0, RE.K_appF, RE.C_v, RE.C_i, RE.C_r, RE.K_bok, RE.K_bexc, RE.K_bbad, RE.K_chkt, RE.K_chkf, RE.K_assoc, RE.K_cast, RE.K_setS, RE.O_and1, RE.O_int, RE.O_non, RE.O_lst, RE.O_tup, RE.O_add, RE.O_sub, RE.O_adl, RE.O_adt, RE.O_ads, RE.O_mul, RE.O_fdiv, RE.O_mod, RE.O_neg, RE.O_abs, RE.O_toint, RE.O_lt, RE.O_le, RE.O_gt, RE.O_ge, RE.O_eq, RE.O_ne, RE.O_in, RE.O_notin, RE.O_isN, RE.O_isntN, RE.O_idx, RE.O_get2, RE.O_lenl, RE.O_lent, RE.O_lend, RE.O_lens, RE.O_tuple1, RE.O_tuple2, RE.O_isi, RE.O_join, RE.O_revt, RE.O_revl, RE.O_revs, RE.O_max2, RE.O_min2, RE.O_iI, RE.O_iB, RE.O_iS, RE.O_iT, RE.O_iL, RE.O_iN, RE.O_isNn, RE.O_isNi, RE.O_isNb, RE.O_isNs, RE.O_isNt, RE.O_isNl, RE.O_it1, RE.O_it2, RE.O_its, RE.O_rng1, RE.O_rng2, RE.O_fcat, RE.O_flist1, RE.O_flist2, RE.O_flist3, RE.O_fsort, RE.O_all, RE.O_any, RE.O_sum, RE.O_mulS, RE.O_mulT, RE.O_mulL, RE.O_frep, RE.O_idl, RE.O_idt, RE.O_ids, RE.K_rngN, RE.opEq_int, RE.opEqB, decide_true, decide_false, Int.reduceEq, Int.reduceLT, Int.reduceLE, Bool.bne_true, Bool.bne_false, Bool.true_bne, Bool.false_bne, RE.entry, RE.at_zero, RE.at_one, RE.at_two, List.map_cons, List.map_nil, List.cons_append, List.nil_append, List.getD_cons_zero, List.getD_cons_succ, List.set_cons_zero, List.set_cons_succ, List.length_cons, List.length_nil, List.reduceReplicate, Bool.not_false, Bool.not_true, Bool.and_true, Bool.true_and, Bool.and_false, Bool.false_and, Bool.or_true, Bool.true_or, Bool.or_false, Bool.false_or, beq_self_eq_true, Nat.zero_add, Nat.reduceAdd, Nat.reduceSub, Nat.reduceBEq, bne_self_eq_false, String.reduceBEq, Nat.reduceLeDiff, List.length_map, Int.reduceAdd, Int.reduceSub, Int.reduceNeg, $xs,*])
theorem rep_row (b : Bool) (n : Nat) : repL n [sgn b] = rowL n fun _ => b := repL_one n _
theorem rep_row46 (n : Nat) : repL n [46] = rowL n fun _ => true := repL_one n _
theorem rep_row35 (n : Nat) : repL n [35] = rowL n fun _ => false := repL_one n _
theorem row_app (a b : Nat) (f g : Nat → Bool) : rowL a f ++ rowL b g = rowL (a + b) fun c => if c < a then f c else g (c - a) := by
  apply List.ext_getElem
  · simp [rowL]
  · intro i h1 h2
    rw [rowL_get]
    rw [List.getElem_append]
    by_cases q : i < a
    · rw [dif_pos (by rw [rowL_len]; exact q), rowL_get, if_pos q]
    · rw [dif_neg (by rw [rowL_len]; exact q), rowL_get, if_neg q, rowL_len]
theorem cut_init {α : Type} (x : List α) : cutD x none (some (-1)) = x.take (x.length - 1) := by
  unfold cutD
  have e : HT.sIx x.length x.length (some (-1)) = x.length - 1 := by
    show (if (-1 : Int) < 0 then ((-1 : Int) + (x.length : Int)).toNat else min (-1 : Int).toNat x.length) = _
    rw [if_pos (by omega)]
    omega
  rw [e, HT.sIx_none]
  simp
theorem sl_init (x : List Nat) (h : x.length ≤ 16777216) : op (.sl false true) [.str x, .int (-1)] = .ok (.str (x.take (x.length - 1))) := by
  show chk (inLim x.length) _ = _
  rw [inLim_ok h, chk_true]
  show Out.ok (RE.D.str (cutD x none (some (-1)))) = _
  rw [cut_init]
theorem row_take (w n : Nat) (g : Nat → Bool) (h : n ≤ w) : (rowL w g).take n = rowL n g := by
  apply List.ext_getElem
  · simp [rowL]; omega
  · intro i h1 h2
    simp [rowL]
theorem row_rev (w : Nat) (g : Nat → Bool) : (rowL w g).reverse = rowL w fun c => g (w - 1 - c) := by
  apply List.ext_getElem
  · simp [rowL]
  · intro i h1 h2
    simp [rowL]
theorem add_rows (a b : Nat) (f g : Nat → Bool) (h : a + b ≤ 16777216) : op .add [.str (rowL a f), .str (rowL b g)] = .ok (.str (rowL (a + b) fun c => if c < a then f c else g (c - a))) := by
  rw [O_ads _ _ (by rw [rowL_len, rowL_len]; exact h), row_app]
theorem frame_rows (s : Nat) (a b : RE.D) : [a] ++ ((List.range (s + 1)).map fun _ => b) ++ [a] = (List.range (s + 3)).map fun r => if r = 0 ∨ r = s + 2 then a else b := by
  apply List.ext_getElem
  · simp
  · intro i h1 h2
    simp only [List.length_append, List.length_map, List.length_range, List.length_cons, List.length_nil] at h1
    simp only [List.getElem_map, List.getElem_range]
    by_cases q0 : i = 0
    · subst q0; simp
    · by_cases q1 : i = s + 2
      · subst q1
        rw [List.getElem_append_right (by simp)]
        simp
      · rw [if_neg (by omega), List.getElem_append_left (by simp <;> omega), List.getElem_append_right (by simp <;> omega)]
        simp
theorem w_law_even_floor (k : Nat) (xs : List RE.D) (hx : Cup xs) (most : Nat) (m1 : 1 ≤ most) (m2 : most ≤ 6) :
    ∃ (h w : Nat) (f : Nat → Nat → Bool) (ys : List RE.D), (RE.callF T FU (k+3)).io 37 xs [.int (most : Int)] = .ok (flD h w f, ys) ∧ Cup ys ∧ Fits h w := by
  rw [c_law_even_floor]
  obtain ⟨way, x1, e1, hx1, lw⟩ := w_law_roll (k+1) xs hx 4 (by omega) (by omega)
  obtain ⟨s, x2, e2, hx2, ls⟩ := w_law_roll (k+1) x1 hx1 most m1 (by omega)
  obtain ⟨cn, x3, e3, hx3, lc⟩ := w_law_roll (k+1) x2 hx2 2 (by omega) (by omega)
  obtain ⟨h, w, f, x4, e4, hx4, h1, h2, w1, w2⟩ := w_law_floor k x3 hx3 most most 3 m1 (by omega) m1 (by omega) (by omega)
  obtain ⟨v, x5, e5, hx5, lv⟩ := w_law_roll (k+1) x4 hx4 most m1 (by omega)
  have e1 : (RE.callF T FU (k+2)).io 28 xs [.int 4] = _ := e1
  have e3 : (RE.callF T FU (k+2)).io 28 x2 [.int 2] = _ := e3
  have e4 : (RE.callF T FU (k+2)).io 31 x3 [.int (most : Int), .int (most : Int), .int 3] = _ := e4
  have es : (1 : Int) + (s : Int) = ((s + 1 : Nat) : Int) := by omega
  have ev : (1 : Int) + (v : Int) = ((v + 1 : Nat) : Int) := by omega
  simp_arith [l_law_even_floor, e1, e2, e3, e4, e5, es, ev]
  by_cases q0 : (way : Int) = 0
  · simp_arith [q0, rep_row46]
    refine ⟨s + 1, v + 1, fun _ _ => true, x5, ?_, hx5, ⟨by omega, by omega, by omega, by omega⟩⟩
    rw [repL_one]
    rfl
  · by_cases q1 : (way : Int) = 1
    · simp_arith [q1]
      exact ⟨h, w, f, x5, rfl, hx5, ⟨by omega, by omega, by omega, by omega⟩⟩
    · by_cases q2 : (way : Int) = 2
      · simp_arith [q2]
        unfold flD
        simp_arith []
        rw [comp_all (fun r => rowD w (f r)) (fun r => rowD (w - 1 + w) fun c => if c < w - 1 then f r c else f r (w - 1 - (c - (w - 1)))) (List.range h) (by simp; omega) fun r hr => ⟨_, _, rfl, ?_⟩]
        · simp_arith []
          exact ⟨h, w - 1 + w, _, x5, rfl, hx5, ⟨by omega, by omega, by omega, by omega⟩⟩
        · unfold rowD
          have hl : (rowL w (f r)).length ≤ 16777216 := by rw [rowL_len]; omega
          have hl2 : w - 1 + w ≤ 16777216 := by omega
          simp_arith [l_law_even_floor_x1, sl_init _ hl, O_revs _ hl]
          rw [rowL_len, row_take _ _ _ (by omega), row_rev, add_rows _ _ _ _ hl2]
      · have h2 : op .mul [.int 2, .int (cn : Int)] = .ok (.int ((2 * cn : Nat) : Int)) := by
          rw [mul_l _ _ (by omega)]
          congr 2
        have h3 : ((v + 1 : Nat) : Int) + ((2 * cn : Nat) : Int) = ((v + 1 + 2 * cn : Nat) : Int) := by omega
        simp_arith [q0, q1, q2, rep_row46, rep_row35, h2, h3, repL_one]
        have er : (List.map (fun _ => 35) (List.range cn) ++ List.map (fun _ => 46) (List.range (v + 1)) ++ List.map (fun _ => 35) (List.range cn)) = rowL (v + 1 + 2 * cn) fun c => if c < cn + (v + 1) then (if c < cn then false else true) else false := by
          have e1 : (List.map (fun _ => 35) (List.range cn)) = rowL cn fun _ => false := rfl
          have e2 : (List.map (fun _ => 46) (List.range (v + 1))) = rowL (v + 1) fun _ => true := rfl
          rw [e1, e2, row_app, row_app, show cn + (v + 1) + cn = v + 1 + 2 * cn by omega]
        rw [er]
        refine ⟨s + 3, v + 1 + 2 * cn, fun r c => if r = 0 ∨ r = s + 2 then (if c < cn + (v + 1) then (if c < cn then false else true) else false) else true, x5, ?_, hx5, ⟨by omega, by omega, by omega, by omega⟩⟩
        rw [show ∀ (a : RE.D) (l : List RE.D), a :: (l ++ [a]) = [a] ++ l ++ [a] from fun _ _ => rfl, frame_rows]
        unfold flD rowD
        congr 3
        refine List.map_congr_left fun r hr => ?_
        by_cases q : r = 0 ∨ r = s + 2
        · simp only [if_pos q]
        · simp only [if_neg q]
          rfl
/-! ### turned back -/
theorem Wd.ag_dims (x : Wd) (h w : Nat) : x.ag.h' (x.h' h w) (x.w' h w) = h ∧ x.ag.w' (x.h' h w) (x.w' h w) = w := by
  cases x <;> exact ⟨rfl, rfl⟩
theorem Wd.ag_from (x : Wd) {h w r c : Nat} (hr : r < h) (hc : c < w) : x.from' h w (x.ag.from' (x.h' h w) (x.w' h w) (r, c)) = (r, c) := by
  cases x <;> simp [from', ag, h', w', xc, dn, rt] <;> omega
theorem turn_back (x : Wd) (h w : Nat) (f : Nat → Nat → Bool) (h1 : 1 ≤ h) : flD (x.ag.h' (x.h' h w) (x.w' h w)) (x.ag.w' (x.h' h w) (x.w' h w)) (x.ag.tf (x.h' h w) (x.w' h w) (x.tf h w f)) = flD h w f := by
  rw [(Wd.ag_dims x h w).1, (Wd.ag_dims x h w).2, flD_inj h1]
  refine ⟨rfl, rfl, fun r c hr hc => ?_⟩
  unfold Wd.tf
  rw [Wd.ag_from x hr hc]
theorem turned_squares (x : Wd) (h w : Nat) (f : Nat → Nat → Bool) : isortT sqLe (((sqL h w f).map (x.go h w)).map sqI) = (sqL (x.h' h w) (x.w' h w) (x.tf h w f)).map sqI := by
  refine sorted_sq (List.Perm.map _ ?_) (sqL_le _ _ _)
  refine (List.perm_ext_iff_of_nodup ?_ (sqL_nodup _ _ _)).mpr fun p => ?_
  · unfold List.Nodup
    rw [List.pairwise_map]
    refine List.Pairwise.imp_of_mem (fun {a b} ha hb hab e => hab ?_) (sqL_nodup h w f)
    have ha := mem_sqL.mp ha
    have hb := mem_sqL.mp hb
    rw [← Wd.from_go x ha.1 ha.2.1, e, Wd.from_go x hb.1 hb.2.1]
  · rw [mem_sqL, List.mem_map]
    constructor
    · rintro ⟨q, hq, rfl⟩
      have hq := mem_sqL.mp hq
      have gl := Wd.go_lt x hq.1 hq.2.1
      refine ⟨gl.1, gl.2, ?_⟩
      unfold Wd.tf
      rw [Wd.from_go x hq.1 hq.2.1]
      exact hq.2.2
    · rintro ⟨p1, p2, p3⟩
      have hf := Wd.from_lt x p1 p2
      exact ⟨x.from' h w p, mem_sqL.mpr ⟨hf.1, hf.2, p3⟩, Wd.go_from x p1 p2⟩
theorem lk_fl (n h w : Nat) (f : Nat → Nat → Bool) (F : Fits h w) : lk (n + 1) (flD h w f) = true := by
  have := F.h2
  show (decide (_ ≤ 16777216) && List.all _ (lk n)) = true
  rw [decide_eq_true (by simp; omega), Bool.true_and, List.all_map, List.all_eq_true]
  intro r _
  show lk n (.str (rowL w (f r))) = true
  cases n <;> exact rowL_ok w (f r)
theorem lk_sqs (n : Nat) (l : List (Nat × Nat)) (hl : l.length ≤ 16777216) : lk (n + 2) (.lst (sqlD l)) = true ∧ lk (n + 2) (.tup (sqlD l)) = true := by
  have : (decide ((sqlD l).length ≤ 16777216) && (sqlD l).all (lk (n + 1))) = true := by
    rw [sqlD_len, decide_eq_true hl, Bool.true_and]
    unfold sqlD
    rw [List.all_map, List.all_eq_true]
    intro p _
    cases n <;> rfl
  exact ⟨this, this⟩
theorem lk_wds (n : Nat) (l : List Wd) (hl : l.length ≤ 16777216) : lk (n + 1) (.tup (wdsD l)) = true := by
  show (decide ((wdsD l).length ≤ 16777216) && (wdsD l).all (lk n)) = true
  unfold wdsD
  rw [List.length_map, decide_eq_true hl, Bool.true_and, List.all_map, List.all_eq_true]
  intro x _
  show lk n (.str x.s) = true
  cases n <;> cases x <;> rfl
theorem sqL_len {h w : Nat} {f : Nat → Nat → Bool} (F : Fits h w) : (sqL h w f).length ≤ 144 :=
  Nat.le_trans (range_len_sqL h w f) (Nat.mul_le_mul F.h2 F.w2)
theorem sorted_sqlD (l : List (Nat × Nat)) (hl : l.length ≤ 16777216) : fSorted (.lst (sqlD l)) = .ok ((isortT sqLe (l.map sqI)).map sqD) := by
  rw [sqlD_sq]
  exact ord_sq.sorted _ (by simpa using hl)
theorem w_law_goes' (k : Nat) (x : Wd) {h w : Nat} {p : Nat × Nat} (hr : p.1 < h) (hc : p.2 < w) : (RE.callF T FU (k+1)).f 34 [.int (h : Int), .int (w : Int), x.d, plD p.1 p.2] = .ok (plD (x.go h w p).1 (x.go h w p).2) := w_law_goes k x hr hc
theorem len_fl (h w : Nat) (f : Nat → Nat → Bool) : op .len [flD h w f] = .ok (.int h) := by unfold flD; simp_arith [List.length_range]
theorem idx_fl {h w : Nat} (f : Nat → Nat → Bool) (F : Fits h w) : opIdx (flD h w f) (.int 0) = .ok (rowD w (f 0)) := by
  have e0 := fl_row0 (f := f) F
  unfold flD; simp_arith [e0]
theorem sqlD_map (l : List (Nat × Nat)) (g : Nat × Nat → Nat × Nat) : (l.map fun p => plD (g p).1 (g p).2) = sqlD (l.map g) := by
  unfold sqlD
  rw [List.map_map]
  rfl
theorem w_law_right (k h w : Nat) (f : Nat → Nat → Bool) (F : Fits h w) : (RE.callF T FU (k+8)).f 38 [flD h w f] = .ok (.bl true) := by
  rw [c_law_right]
  have hsl := sqL_len (f := f) F
  simp_arith [l_law_right, len_fl, idx_fl f F, len_row F.w2, w_law_words]
  refine for_then (for_go Wd.d (fun _ env => ∃ a b c d, env = [Slot.val (flD h w f), a, .val (.int h), .val (.int w), b, c, d]) Wd.all ?_ [] Wd.all _ rfl ⟨_, _, _, _, rfl⟩) ?_
  · rintro p x q env _ ⟨a, b, c, d, rfl⟩
    refine ⟨_, rfl, ?_⟩
    have FT := F.turn x
    have l1 := w_law_like 4 (k+1) (flD (x.h' h w) (x.w' h w) (x.tf h w f)) (lk_fl 3 _ _ _ FT)
    have l2 := w_law_like 4 (k+1) (.lst (sqlD ((sqL h w f).map (x.go h w)))) (lk_sqs 2 _ (by simp; omega)).1
    have l3 := w_law_like 4 (k+1) (.lst [.tup (sqlD (sqL (x.h' h w) (x.w' h w) (x.tf h w f))), flD h w f]) (by
      have hs := sqL_len (f := x.tf h w f) FT
      show (decide (2 ≤ 16777216) && (lk 3 _ && (lk 3 _ && true))) = true
      rw [(lk_sqs 1 _ (by omega)).2, lk_fl 2 _ _ _ F]
      rfl)
    have hb : (RE.callF T FU (k+7)).f 22 [flD (x.h' h w) (x.w' h w) (x.tf h w f), x.ag.d] = .ok (flD h w f) := by
      rw [w_floor_by_word (k+3) _ _ _ FT, turn_back x h w f F.h1]
    have hso : fSorted (.lst (sqlD ((sqL h w f).map (x.go h w)))) = .ok (sqlD (sqL (x.h' h w) (x.w' h w) (x.tf h w f))) := by
      rw [sorted_sqlD _ (by simp; omega), turned_squares, ← sqlD_sq]
    simp_arith [l_law_right_b1, w_law_turned_floor (k+5) h w f F, w_floor_by_word (k+3) h w f F, l1, w_law_squares (k+6) h w f F]
    unfold sqlD
    rw [comp_all (fun p => plD p.1 p.2) (fun p => plD (x.go h w p).1 (x.go h w p).2) (sqL h w f) (by omega) fun p hp => ⟨_, _, rfl, ?_⟩]
    · simp_arith []
      rw [comp_all (fun p => plD p.1 p.2) (fun p => plD (x.go h w p).1 (x.go h w p).2) (sqL h w f) (by omega) fun p hp => ⟨_, _, rfl, ?_⟩]
      · rw [sqlD_map]
        simp_arith [l2, w_squares_of (k+3) _ _ _ FT, w_word_against (k+5), hb, hso, l3]
        exact ⟨_, rfl, _, _, _, _, rfl⟩
      · have hp := mem_sqL.mp hp
        simp_arith [l_law_right_x2, w_law_goes' (k+6) x hp.1 hp.2.1]
    · have hp := mem_sqL.mp hp
      have := w_square_by_word (k+1) h w f F x p.1 p.2 hp.1 hp.2.1 hp.2.2
      simp_arith [l_law_right_x1, this]
  · rintro env ⟨a, b, c, d, rfl⟩
    have hq := w_floor_by_word (k+3) h w f F .quarter
    have hf := w_floor_by_word (k+3) h w f F .flat
    have hq : (RE.callF T FU (k+7)).f 22 [flD h w f, .str [113, 117, 97, 114, 116, 101, 114]] = .ok (flD w h fun r c => f (h - 1 - c) r) := hq
    have hf : (RE.callF T FU (k+7)).f 22 [flD h w f, .str [102, 108, 97, 116]] = .ok (flD h w fun r c => f r (w - 1 - c)) := hf
    have l4 := w_law_like 4 (k+1) (.lst [flD w h fun r c => f (h - 1 - c) r, flD h w fun r c => f r (w - 1 - c)]) (by
      show (decide (2 ≤ 16777216) && (lk 3 _ && (lk 3 _ && true))) = true
      rw [lk_fl 2 _ _ _ F, lk_fl 2 _ _ _ ⟨F.w1, F.w2, F.h1, F.h2⟩]
      rfl)
    have l5 := w_law_like 4 (k+1) (.tup (wdsD (ownL h w f))) (lk_wds 3 _ (by
      have := List.length_filter_le (leavesB h w f) Wd.all
      unfold ownL
      have : Wd.all.length = 8 := rfl
      omega))
    simp_arith [hq, hf, w_floor_turned (k+3) h w f F, w_floor_mirrored (k+3) h w f F, l4, w_own_words (k+3) h w f F, w_law_own_words (k+4) h w f F, l5]
/-! ### words one behind the other -/
theorem Wd.bh_dims (x y : Wd) (h w : Nat) : y.h' (x.h' h w) (x.w' h w) = (x.bh y).h' h w ∧ y.w' (x.h' h w) (x.w' h w) = (x.bh y).w' h w := by
  cases x <;> cases y <;> exact ⟨rfl, rfl⟩
theorem Wd.bh_go (x y : Wd) {h w : Nat} {p : Nat × Nat} (hr : p.1 < h) (hc : p.2 < w) : y.go (x.h' h w) (x.w' h w) (x.go h w p) = (x.bh y).go h w p := by
  cases x <;> cases y <;> simp [go, bh, mk, h', w', xc, dn, rt] <;> omega
theorem Wd.bh_from (x y : Wd) {h w : Nat} {p : Nat × Nat} (hr : p.1 < (x.bh y).h' h w) (hc : p.2 < (x.bh y).w' h w) : x.from' h w (y.from' (x.h' h w) (x.w' h w) p) = (x.bh y).from' h w p := by
  obtain ⟨a, b⟩ := p
  cases x <;> cases y <;> simp [from', bh, mk, h', w', xc, dn, rt] at hr hc ⊢ <;> omega
theorem turn_turn (x y : Wd) (h w : Nat) (f : Nat → Nat → Bool) (F : Fits h w) : flD (y.h' (x.h' h w) (x.w' h w)) (y.w' (x.h' h w) (x.w' h w)) (y.tf (x.h' h w) (x.w' h w) (x.tf h w f)) = flD ((x.bh y).h' h w) ((x.bh y).w' h w) ((x.bh y).tf h w f) := by
  rw [(Wd.bh_dims x y h w).1, (Wd.bh_dims x y h w).2, flD_inj (F.turn _).h1]
  refine ⟨rfl, rfl, fun r c hr hc => ?_⟩
  unfold Wd.tf
  rw [Wd.bh_from x y hr hc]
theorem w_law_behind_right (k h w : Nat) (f : Nat → Nat → Bool) (F : Fits h w) : (RE.callF T FU (k+8)).f 39 [flD h w f] = .ok (.bl true) := by
  rw [c_law_behind_right]
  simp_arith [l_law_behind_right, w_law_words]
  refine for_then (for_go Wd.d (fun _ env => ∃ a b c d e, env = [Slot.val (flD h w f), a, b, c, d, e]) Wd.all ?_ [] Wd.all _ rfl ⟨_, _, _, _, _, rfl⟩) ?_
  · rintro p x q env _ ⟨a, b, c, d, e, rfl⟩
    refine ⟨_, rfl, ?_⟩
    simp_arith [l_law_behind_right_b1, w_law_words]
    refine for_then2 (for_go Wd.d (fun _ env => ∃ b c d e, env = [Slot.val (flD h w f), .val x.d, b, c, d, e]) Wd.all ?_ [] Wd.all _ rfl ⟨_, _, _, _, rfl⟩) ?_
    · rintro p y q env _ ⟨b, c, d, e, rfl⟩
      refine ⟨_, rfl, ?_⟩
      have FT := F.turn x
      have hin : opIn true (x.bh y).d (.tup (wdsD Wd.all)) = .ok (.bl false) := by
        unfold wdsD
        rw [in_tup enc_wd _ _ (Wd.d_ok _ _) (fun y _ => Wd.d_ok _ _), decide_eq_true (Wd.mem_all _)]
        rfl
      have e2 : (RE.callF T FU (k+7)).f 22 [flD (x.h' h w) (x.w' h w) (x.tf h w f), y.d] = .ok (flD ((x.bh y).h' h w) ((x.bh y).w' h w) ((x.bh y).tf h w f)) := by
        rw [w_floor_by_word (k+3) _ _ _ FT, turn_turn x y h w f F]
      have eq1 : opEq true (flD ((x.bh y).h' h w) ((x.bh y).w' h w) ((x.bh y).tf h w f)) (flD ((x.bh y).h' h w) ((x.bh y).w' h w) ((x.bh y).tf h w f)) = .ok (.bl false) := by
        rw [opEq_fl, (eqv_fl _ _ _ _ _ _).mpr rfl]
        rfl
      have hcut : op (.sl false true) [.lst (sqlD (sqL h w f)), .int 3] = .ok (.lst (sqlD ((sqL h w f).take 3))) := by
        show Out.ok (RE.D.lst (cutD (sqlD (sqL h w f)) none (some 3))) = _
        unfold cutD sqlD
        rw [HT.sIx_none, show (some (3 : Int)) = some ((3 : Nat) : Int) from rfl, HT.sIx_nat]
        simp only [List.drop_zero, Nat.sub_zero, ← List.map_take]
        congr 3
        rw [List.take_eq_take_iff]
        simp
      simp_arith [l_law_behind_right_b2, w_word_behind (k+4), w_law_words, hin, w_floor_by_word (k+3) h w f F, e2, eq1, w_law_squares (k+6) h w f F, hcut]
      unfold sqlD
      refine for_then2 (for_go (fun p => plD p.1 p.2) (fun _ env => ∃ d e, env = [Slot.val (flD h w f), .val x.d, .val y.d, .val (x.bh y).d, d, e]) ((sqL h w f).take 3) ?_ [] ((sqL h w f).take 3) _ rfl ⟨_, _, rfl⟩) ?_
      · rintro p' z q' env hz ⟨d, e, rfl⟩
        refine ⟨_, rfl, ?_⟩
        have hz : z ∈ sqL h w f := List.mem_of_mem_take (by rw [hz]; simp)
        have hz := mem_sqL.mp hz
        have gl := Wd.go_lt x hz.1 hz.2.1
        have s1 := w_square_by_word (k+1) h w f F x z.1 z.2 hz.1 hz.2.1 hz.2.2
        have s3 := w_square_by_word (k+1) h w f F (x.bh y) z.1 z.2 hz.1 hz.2.1 hz.2.2
        have s2 := w_square_by_word (k+1) _ _ (x.tf h w f) FT y _ _ gl.1 gl.2 (by
          unfold Wd.tf
          rw [Wd.from_go x hz.1 hz.2.1]
          exact hz.2.2)
        have s2 : (RE.callF T FU (k+7)).f 23 [flD (x.h' h w) (x.w' h w) (x.tf h w f), y.d, plD (x.go h w (z.1, z.2)).1 (x.go h w (z.1, z.2)).2] = .ok (plD ((x.bh y).go h w (z.1, z.2)).1 ((x.bh y).go h w (z.1, z.2)).2) := by
          rw [s2]
          have := Wd.bh_go x y (h := h) (w := w) (p := (z.1, z.2)) hz.1 hz.2.1
          show Out.ok (plD (y.go (x.h' h w) (x.w' h w) (x.go h w (z.1, z.2))).1 (y.go (x.h' h w) (x.w' h w) (x.go h w (z.1, z.2))).2) = _
          rw [this]
        have eq2 : opEq true (plD ((x.bh y).go h w (z.1, z.2)).1 ((x.bh y).go h w (z.1, z.2)).2) (plD ((x.bh y).go h w (z.1, z.2)).1 ((x.bh y).go h w (z.1, z.2)).2) = .ok (.bl false) := by
          unfold plD
          rw [opEq_sq, decide_eq_true rfl]
          rfl
        simp_arith [l_law_behind_right_b3, w_law_turned_floor (k+5) h w f F, s1, s2, s3, eq2]
        exact ⟨_, rfl, _, _, rfl⟩
      · rintro env ⟨d, e, rfl⟩
        simp_arith []
        exact ⟨_, rfl, _, _, _, _, rfl⟩
    · rintro env ⟨b, c, d, e, rfl⟩
      simp_arith []
      exact ⟨_, rfl, _, _, _, _, _, rfl⟩
  · rintro env ⟨a, b, c, d, e, rfl⟩
    simp_arith []
end Lw
end

section
set_option linter.all false
set_option maxRecDepth 100000
set_option maxHeartbeats 4000000
set_option autoImplicit false
/-! K75W: the law k75. -/
namespace Lw
open RE
open L2 (atI ixN)
local macro_rules
  | `(tactic| simp_arith [$xs,*]) => `(tactic| simp (disch := first | assumption | omega | decide | (simp; done) | (simp <;> omega) | fail) only [RE.E_con, RE.E_var, RE.E_bvar, RE.E_tup, RE.E_new, RE.E_op, RE.E_and, RE.E_or, RE.E_not, RE.E_ite, RE.E_chain, RE.E_call, RE.E_dic, RE.E_nil, RE.E_cons, RE.E_lst, RE.E_fop, RE.E_fcall, RE.E_comp, RE.E_ival, RE.E_irng, RE.E_ienum, RE.E_izip, RE.E_pur, RE.E_mop, RE.E_mtup, RE.E_mlst, RE.E_mite, RE.E_mnot, RE.E_mand, RE.E_mor, RE.E_mcall, RE.E_io, RE.E_pop, RE.E_popAt, RE.E_mnil, RE.E_mcons, RE.E_rval, RE.E_rown, RE.E_rdic, RE.E_rsnil, RE.E_rscons, RE.E_sname, RE.E_ssub, RE.E_ssub2, RE.E_ssnil, RE.E_sscons, RE.E_pass, RE.E_brk, RE.E_cnt, RE.E_retN, RE.E_frz, RE.E_ret, RE.E_expr, RE.E_set, RE.E_setLL, RE.E_unpack, RE.E_par, RE.E_asg, RE.E_app, RE.E_appF, RE.E_site, RE.E_whl, RE.E_forp, RE.E_forr, RE.E_raise, RE.E_snil, RE.E_scons, RE.K_nx, RE.K_rt, RE.K_bk, RE.K_ct, RE.K_var, RE.K_l1, RE.K_l2, RE.K_l3, RE.K_l4, RE.K_l5, RE.K_ift, RE.K_iff, RE.K_ct1, RE.K_ct2, RE.K_io, RE.K_pop, RE.K_frz, RE.K_frz1, RE.K_fl, RE.K_fll, RE.K_fd, RE.K_ioE, RE.K_frE, RE.K_own, RE.K_ownL, RE.K_ownLL, RE.K_rs, RE.K_rn, RE.K_so1, RE.K_so2, RE.K_b1, RE.K_bm, RE.K_s0, RE.K_s1, RE.K_w0, RE.K_w1, RE.K_o1, RE.K_app, RE.K_appF0, RE.K_appF, RE.C_v, RE.C_i, RE.C_r, RE.K_bok, RE.K_bexc, RE.K_bbad, RE.K_chkt, RE.K_chkf, RE.K_assoc, RE.K_cast, RE.K_setS, RE.O_and1, RE.O_int, RE.O_non, RE.O_lst, RE.O_tup, RE.O_add, RE.O_sub, RE.O_adl, RE.O_adt, RE.O_ads, RE.O_mul, RE.O_fdiv, RE.O_mod, RE.O_neg, RE.O_abs, RE.O_toint, RE.O_lt, RE.O_le, RE.O_gt, RE.O_ge, RE.O_eq, RE.O_ne, RE.O_in, RE.O_notin, RE.O_isN, RE.O_isntN, RE.O_idx, RE.O_get2, RE.O_lenl, RE.O_lent, RE.O_lend, RE.O_lens, RE.O_tuple1, RE.O_tuple2, RE.O_isi, RE.O_join, RE.O_revt, RE.O_revl, RE.O_revs, RE.O_max2, RE.O_min2, RE.O_iI, RE.O_iB, RE.O_iS, RE.O_iT, RE.O_iL, RE.O_iN, RE.O_isNn, RE.O_isNi, RE.O_isNb, RE.O_isNs, RE.O_isNt, RE.O_isNl, RE.O_it1, RE.O_it2, RE.O_its, RE.O_rng1, RE.O_rng2, RE.O_fcat, RE.O_flist1, RE.O_flist2, RE.O_flist3, RE.O_fsort, RE.O_all, RE.O_any, RE.O_sum, RE.O_mulS, RE.O_mulT, RE.O_mulL, RE.O_frep, RE.O_idl, RE.O_idt, RE.O_ids, RE.K_rngN, RE.opEq_int, RE.opEqB, decide_true, decide_false, Int.reduceEq, Int.reduceLT, Int.reduceLE, Bool.bne_true, Bool.bne_false, Bool.true_bne, Bool.false_bne, RE.entry, RE.at_zero, RE.at_one, RE.at_two, List.map_cons, List.map_nil, List.cons_append, List.nil_append, List.getD_cons_zero, List.getD_cons_succ, List.set_cons_zero, List.set_cons_succ, List.length_cons, List.length_nil, List.reduceReplicate, Bool.not_false, Bool.not_true, Bool.and_true, Bool.true_and, Bool.and_false, Bool.false_and, Bool.or_true, Bool.true_or, Bool.or_false, Bool.false_or, beq_self_eq_true, Nat.zero_add, Nat.reduceAdd, Nat.reduceSub, Nat.reduceBEq, bne_self_eq_false, String.reduceBEq, Nat.reduceLeDiff, List.length_map, Int.reduceAdd, Int.reduceSub, Int.reduceNeg, $xs,*])
theorem law_words_loop (k : Nat) (x : Wd) : fSorted (.lst (wdsD (Wd.all.map x.bh))) = .ok (wdsD Wd.all) ∧ fSorted (.lst (wdsD (Wd.all.map fun y => y.bh x))) = .ok (wdsD Wd.all) := by
  cases x <;> exact ⟨by kernel_rfl, by kernel_rfl⟩
theorem fits_mk (h w : Nat) (h1 : 1 ≤ h) (h2 : h ≤ 12) (w1 : 1 ≤ w) (w2 : w ≤ 12) : Fits h w := ⟨h1, h2, w1, w2⟩
theorem math (ns : List Int) (hn : ns.length ≤ 63) : (RE.callF T FU 40).f 40 [.scr (ns.map .int)] = .ok (.bl true) := by
  rw [show (40 : Nat) = (20 + 19) + 1 from rfl, c_law]
  generalize (20 : Nat) = k
  obtain ⟨x0, e0, hx0⟩ := w_law_cup (k + 18) ns hn
  have t1 : (RE.callF T FU (k+19)).f 22 [.tup [.str [46, 46], .str [46, 35], .str [35, 35]], .str [113, 117, 97, 114, 116, 101, 114]] = .ok (.tup [.str [35, 46, 46], .str [35, 35, 46]]) := by rw [T_eq]; kernel_rfl
  have t2 : (RE.callF T FU (k+19)).f 22 [.tup [.str [46, 46, 35]], .str [115, 108, 97, 110, 116]] = .ok (.tup [.str [46], .str [46], .str [35]]) := by rw [T_eq]; kernel_rfl
  have t3 : (RE.callF T FU (k+19)).f 23 [.tup [.str [46, 46, 46], .str [46, 46, 46]], .str [113, 117, 97, 114, 116, 101, 114], .tup [.int 0, .int 0]] = .ok (.tup [.int 0, .int 1]) := by rw [T_eq]; kernel_rfl
  have t4 : (RE.callF T FU (k+19)).f 23 [.tup [.str [46, 46, 46], .str [46, 46, 46]], .str [98, 97, 99, 107], .tup [.int 0, .int 0]] = .ok (.tup [.int 2, .int 1]) := by rw [T_eq]; kernel_rfl
  have l1 := w_law_like 4 (k + 13) (.lst [.tup [.str [35, 46, 46], .str [35, 35, 46]], .tup [.str [46], .str [46], .str [35]], .tup [.int 0, .int 1], .tup [.int 2, .int 1]]) (by decide +kernel)
  have t5 : (RE.callF T FU (k+19)).f 24 [.tup [.str [46, 46, 46], .str [46, 46, 46]]] = .ok (.tup [.str [102, 108, 97, 116], .str [104, 97, 108, 102], .str [115, 116, 97, 121], .str [117, 112, 114, 105, 103, 104, 116]]) := by rw [T_eq]; kernel_rfl
  have t6 : (RE.callF T FU (k+19)).f 24 [.tup [.str [46, 46], .str [46, 46]]] = .ok (.tup (wdsD Wd.all)) := by rw [T_eq]; kernel_rfl
  have t6' : (wdsD Wd.all).length = 8 := rfl
  have t7 : (RE.callF T FU (k+19)).f 24 [.tup [.str [46, 46], .str [46, 35]]] = .ok (.tup [.str [115, 108, 97, 110, 116], .str [115, 116, 97, 121]]) := by rw [T_eq]; kernel_rfl
  have wb := fun x y => w_word_behind (k + 16) x y
  have wa := fun x => w_word_against (k + 17) x
  have b1 : (RE.callF T FU (k+19)).f 25 [.str [113, 117, 97, 114, 116, 101, 114], .str [113, 117, 97, 114, 116, 101, 114]] = .ok (.str [104, 97, 108, 102]) := wb .quarter .quarter
  have b2 : (RE.callF T FU (k+19)).f 25 [.str [102, 108, 97, 116], .str [113, 117, 97, 114, 116, 101, 114]] = .ok (.str [98, 97, 99, 107]) := wb .flat .quarter
  have b3 : (RE.callF T FU (k+19)).f 25 [.str [115, 108, 97, 110, 116], .str [102, 108, 97, 116]] = .ok (.str [113, 117, 97, 114, 116, 101, 114]) := wb .slant .flat
  have b4 : (RE.callF T FU (k+19)).f 25 [.str [102, 108, 97, 116], .str [115, 108, 97, 110, 116]] = .ok (.str [116, 104, 114, 101, 101, 113, 117, 97, 114, 116, 101, 114]) := wb .flat .slant
  have b5 : (RE.callF T FU (k+19)).f 25 [.str [104, 97, 108, 102], .str [115, 108, 97, 110, 116]] = .ok (.str [98, 97, 99, 107]) := wb .half .slant
  have a1 : (RE.callF T FU (k+19)).f 26 [.str [113, 117, 97, 114, 116, 101, 114]] = .ok (.str [116, 104, 114, 101, 101, 113, 117, 97, 114, 116, 101, 114]) := wa .quarter
  have a2 : (RE.callF T FU (k+19)).f 26 [.str [115, 108, 97, 110, 116]] = .ok (.str [115, 108, 97, 110, 116]) := wa .slant
  have l2 := w_law_like 4 (k + 13) (.lst [.tup [.str [102, 108, 97, 116], .str [104, 97, 108, 102], .str [115, 116, 97, 121], .str [117, 112, 114, 105, 103, 104, 116]], .int 8, .tup [.str [115, 108, 97, 110, 116], .str [115, 116, 97, 121]], .str [104, 97, 108, 102], .str [98, 97, 99, 107]]) (by decide +kernel)
  have l3 := w_law_like 4 (k + 13) (.lst [.str [116, 104, 114, 101, 101, 113, 117, 97, 114, 116, 101, 114], .str [115, 108, 97, 110, 116], .str [113, 117, 97, 114, 116, 101, 114], .str [116, 104, 114, 101, 101, 113, 117, 97, 114, 116, 101, 114], .str [98, 97, 99, 107]]) (by decide +kernel)
  simp_arith [l_law, e0, t1, t2, t3, t4, l1, t5, t6, t6', t7, b1, b2, l2, w_law_words]
  refine for_then (for_go Wd.d (fun _ env => ∃ z0 z2 z3 z5 z6 z7 z8 z9, env = [z0, .own (.lst x0), z2, z3, .val (.tup (wdsD Wd.all)), z5, z6, z7, z8, z9]) Wd.all ?_ [] Wd.all _ rfl ⟨_, _, _, _, _, _, _, _, rfl⟩) ?_
  · rintro p x q env _ ⟨z0, z2, z3, z5, z6, z7, z8, z9, rfl⟩
    refine ⟨_, rfl, ?_⟩
    have s1 := (law_words_loop k x).1
    have s2 := (law_words_loop k x).2
    have q1 : opEq true (.lst (wdsD Wd.all)) (.lst (wdsD Wd.all)) = .ok (.bl false) := by kernel_rfl
    have q2 : opEq true (x.bh x.ag).d (.str [115, 116, 97, 121]) = .ok (.bl false) := by cases x <;> kernel_rfl
    have q3 : (RE.callF T FU (k+19)).f 25 [.str [115, 116, 97, 121], x.d] = .ok x.d := by
      have := wb .stay x
      rw [show Wd.bh .stay x = x by cases x <;> rfl] at this
      exact this
    have q4 : opEq true x.d x.d = .ok (.bl false) := by rw [opEq_wd, decide_eq_true rfl]; rfl
    simp_arith [l_law_b1]
    unfold wdsD
    rw [comp_all Wd.d (fun y => (x.bh y).d) Wd.all (by decide) fun y hy => ⟨_, _, rfl, by simp_arith [l_law_x1, wb]⟩]
    simp_arith []
    rw [comp_all Wd.d (fun y => (y.bh x).d) Wd.all (by decide) fun y hy => ⟨_, _, rfl, by simp_arith [l_law_x2, wb]⟩]
    rw [show (Wd.all.map fun y => (x.bh y).d) = wdsD (Wd.all.map x.bh) by unfold wdsD; rw [List.map_map]; rfl, show (Wd.all.map fun y => (y.bh x).d) = wdsD (Wd.all.map fun y => y.bh x) by unfold wdsD; rw [List.map_map]; rfl, show Wd.all.map Wd.d = wdsD Wd.all from rfl]
    simp_arith [s1, s2, q1, wa, wb, q2, q3, q4]
    exact ⟨_, rfl, _, _, _, _, _, _, _, _, rfl⟩
  · rintro env ⟨z0, z2, z3, z5, z6, z7, z8, z9, rfl⟩
    simp_arith [a1, a2, b3, b4, b5, l3]
    refine for_then (for_go (fun m : Nat => RE.D.int (m : Int)) (fun _ env => ∃ z0 z2 z3 z4 z5 z6 z7 z8 z9 xs, env = [z0, Slot.own (.lst xs), z2, z3, z4, z5, z6, z7, z8, z9] ∧ Cup xs) [2, 4, 6, 6] ?_ [] [2, 4, 6, 6] _ rfl ⟨_, _, _, _, _, _, _, _, _, _, rfl, hx0⟩) ?_
    · rintro p m q env hm ⟨z0, z2, z3, z4, z5, z6, z7, z8, z9, xs, rfl, hxs⟩
      refine ⟨_, rfl, ?_⟩
      have hm : m ∈ [2, 4, 6, 6] := by rw [hm]; simp
      have hm : 1 ≤ m ∧ m ≤ 6 := by simp at hm; omega
      obtain ⟨h, w, f, ys, ef, hys, F⟩ := w_law_even_floor (k+16) xs hxs m hm.1 hm.2
      simp_arith [l_law_b2, ef, w_law_right (k+11) h w f F]
      exact ⟨_, rfl, _, _, _, _, _, _, _, _, _, _, rfl, hys⟩
    · rintro env ⟨z0, z2, z3, z4, z5, z6, z7, z8, z9, xs, rfl, hxs⟩
      obtain ⟨h, w, f, ys, ef, hys, b1, b2, b3, b4⟩ := w_law_floor (k+17) xs hxs 12 12 9 (by omega) (by omega) (by omega) (by omega) (by omega)
      have ef : (RE.callF T FU (k+19)).io 31 xs [.int 12, .int 12, .int 9] = .ok (flD h w f, ys) := ef
      obtain ⟨h', w', f', ys', ef', hys', c1, c2, c3, c4⟩ := w_law_floor (k+17) ys hys 4 5 4 (by omega) (by omega) (by omega) (by omega) (by omega)
      have ef' : (RE.callF T FU (k+19)).io 31 ys [.int 4, .int 5, .int 4] = .ok (flD h' w' f', ys') := ef'
      have e3 : (RE.callF T FU (k+19)).f 39 [.tup [.str [46, 46, 35], .str [46, 46, 46]]] = .ok (.bl true) :=
        w_law_behind_right (k+11) 2 3 (fun r c => !(r == 0 && c == 2)) ⟨by omega, by omega, by omega, by omega⟩
      simp_arith [ef, w_law_right (k+11) h w f ⟨b1, b2, b3, b4⟩, ef', w_law_behind_right (k+11) h' w' f' ⟨c1, by omega, c3, by omega⟩, e3]
end Lw
end

section
set_option linter.all false
set_option maxRecDepth 100000
set_option maxHeartbeats 4000000

namespace Lw
open PySem PySem.Spec PyProof.Rows L2
set_option maxHeartbeats 0 in
theorem all_mk {P : Program} {w : World} {K : PySem.W.Frag} {h : Heap} {mg : Str → Option Value} {fa : Addr} {g0 : Addr} {g1 : Addr} {g2 : Addr} {g3 : Addr} {g4 : Addr} {g5 : Addr} {g6 : Addr} {g7 : Addr} {g8 : Addr} {g9 : Addr} {g10 : Addr} {g11 : Addr} {g12 : Addr} {g13 : Addr} {g14 : Addr} {g15 : Addr} {g16 : Addr} {g17 : Addr} {g18 : Addr} {g19 : Addr} {g20 : Addr} {g21 : Addr} {g22 : Addr} {g23 : Addr} {g24 : Addr} {g25 : Addr} {g26 : Addr} {g27 : Addr} {g28 : Addr} {g29 : Addr} {g30 : Addr} {g31 : Addr} {g32 : Addr} {g33 : Addr} {g34 : Addr} {g35 : Addr} {g36 : Addr} {g37 : Addr} {g38 : Addr} {g39 : Addr} {g40 : Addr} {fd0 : FuncData} {fd1 : FuncData} {fd2 : FuncData} {fd3 : FuncData} {fd4 : FuncData} {fd5 : FuncData} {fd6 : FuncData} {fd7 : FuncData} {fd8 : FuncData} {fd9 : FuncData} {fd10 : FuncData} {fd11 : FuncData} {fd12 : FuncData} {fd13 : FuncData} {fd14 : FuncData} {fd15 : FuncData} {fd16 : FuncData} {fd17 : FuncData} {fd18 : FuncData} {fd19 : FuncData} {fd20 : FuncData} {fd21 : FuncData} {fd22 : FuncData} {fd23 : FuncData} {fd24 : FuncData} {fd25 : FuncData} {fd26 : FuncData} {fd27 : FuncData} {fd28 : FuncData} {fd29 : FuncData} {fd30 : FuncData} {fd31 : FuncData} {fd32 : FuncData} {fd33 : FuncData} {fd34 : FuncData} {fd35 : FuncData} {fd36 : FuncData} {fd37 : FuncData} {fd38 : FuncData} {fd39 : FuncData} {fd40 : FuncData} (X : K.In h) (G : h.Ns mainGlobals mg) (hfa : mg (Str.ofString "law") = some (.ref fa))
    (a0 : PySem.W.nsIn K mainGlobals (Str.ofString "is_integer") = some (some (.ref g0))) (F0 : Fun K (Str.ofString "is_integer") (Str.ofString "is_integer") s0 g0 fd0)
    (a1 : PySem.W.nsIn K mainGlobals (Str.ofString "is_whole") = some (some (.ref g1))) (F1 : Fun K (Str.ofString "is_whole") (Str.ofString "is_whole") s1 g1 fd1)
    (a2 : PySem.W.nsIn K mainGlobals (Str.ofString "is_tuple_of") = some (some (.ref g2))) (F2 : Fun K (Str.ofString "is_tuple_of") (Str.ofString "is_tuple_of") s2 g2 fd2)
    (a3 : PySem.W.nsIn K mainGlobals (Str.ofString "is_word") = some (some (.ref g3))) (F3 : Fun K (Str.ofString "is_word") (Str.ofString "is_word") s3 g3 fd3)
    (a4 : PySem.W.nsIn K mainGlobals (Str.ofString "fits_floor") = some (some (.ref g4))) (F4 : Fun K (Str.ofString "fits_floor") (Str.ofString "fits_floor") s4 g4 fd4)
    (a5 : PySem.W.nsIn K mainGlobals (Str.ofString "need_floor") = some (some (.ref g5))) (F5 : Fun K (Str.ofString "need_floor") (Str.ofString "need_floor") s5 g5 fd5)
    (a6 : PySem.W.nsIn K mainGlobals (Str.ofString "is_place") = some (some (.ref g6))) (F6 : Fun K (Str.ofString "is_place") (Str.ofString "is_place") s6 g6 fd6)
    (a7 : PySem.W.nsIn K mainGlobals (Str.ofString "squares_in") = some (some (.ref g7))) (F7 : Fun K (Str.ofString "squares_in") (Str.ofString "squares_in") s7 g7 fd7)
    (a8 : PySem.W.nsIn K mainGlobals (Str.ofString "is_square") = some (some (.ref g8))) (F8 : Fun K (Str.ofString "is_square") (Str.ofString "is_square") s8 g8 fd8)
    (a9 : PySem.W.nsIn K mainGlobals (Str.ofString "need_square") = some (some (.ref g9))) (F9 : Fun K (Str.ofString "need_square") (Str.ofString "need_square") s9 g9 fd9)
    (a10 : PySem.W.nsIn K mainGlobals (Str.ofString "turned_in") = some (some (.ref g10))) (F10 : Fun K (Str.ofString "turned_in") (Str.ofString "turned_in") s10 g10 fd10)
    (a11 : PySem.W.nsIn K mainGlobals (Str.ofString "mirrored_in") = some (some (.ref g11))) (F11 : Fun K (Str.ofString "mirrored_in") (Str.ofString "mirrored_in") s11 g11 fd11)
    (a12 : PySem.W.nsIn K mainGlobals (Str.ofString "squares_of") = some (some (.ref g12))) (F12 : Fun K (Str.ofString "squares_of") (Str.ofString "squares_of") s12 g12 fd12)
    (a13 : PySem.W.nsIn K mainGlobals (Str.ofString "floor_turned") = some (some (.ref g13))) (F13 : Fun K (Str.ofString "floor_turned") (Str.ofString "floor_turned") s13 g13 fd13)
    (a14 : PySem.W.nsIn K mainGlobals (Str.ofString "floor_mirrored") = some (some (.ref g14))) (F14 : Fun K (Str.ofString "floor_mirrored") (Str.ofString "floor_mirrored") s14 g14 fd14)
    (a15 : PySem.W.nsIn K mainGlobals (Str.ofString "goes_to") = some (some (.ref g15))) (F15 : Fun K (Str.ofString "goes_to") (Str.ofString "goes_to") s15 g15 fd15)
    (a16 : PySem.W.nsIn K mainGlobals (Str.ofString "sides_by") = some (some (.ref g16))) (F16 : Fun K (Str.ofString "sides_by") (Str.ofString "sides_by") s16 g16 fd16)
    (a17 : PySem.W.nsIn K mainGlobals (Str.ofString "floor_by") = some (some (.ref g17))) (F17 : Fun K (Str.ofString "floor_by") (Str.ofString "floor_by") s17 g17 fd17)
    (a18 : PySem.W.nsIn K mainGlobals (Str.ofString "own_words_in") = some (some (.ref g18))) (F18 : Fun K (Str.ofString "own_words_in") (Str.ofString "own_words_in") s18 g18 fd18)
    (a19 : PySem.W.nsIn K mainGlobals (Str.ofString "behind_in") = some (some (.ref g19))) (F19 : Fun K (Str.ofString "behind_in") (Str.ofString "behind_in") s19 g19 fd19)
    (a20 : PySem.W.nsIn K mainGlobals (Str.ofString "against_in") = some (some (.ref g20))) (F20 : Fun K (Str.ofString "against_in") (Str.ofString "against_in") s20 g20 fd20)
    (a21 : PySem.W.nsIn K mainGlobals (Str.ofString "need_turn_word") = some (some (.ref g21))) (F21 : Fun K (Str.ofString "need_turn_word") (Str.ofString "need_turn_word") s21 g21 fd21)
    (a22 : PySem.W.nsIn K mainGlobals (Str.ofString "floor_by_word") = some (some (.ref g22))) (F22 : Fun K (Str.ofString "floor_by_word") (Str.ofString "floor_by_word") s22 g22 fd22)
    (a23 : PySem.W.nsIn K mainGlobals (Str.ofString "square_by_word") = some (some (.ref g23))) (F23 : Fun K (Str.ofString "square_by_word") (Str.ofString "square_by_word") s23 g23 fd23)
    (a24 : PySem.W.nsIn K mainGlobals (Str.ofString "own_words") = some (some (.ref g24))) (F24 : Fun K (Str.ofString "own_words") (Str.ofString "own_words") s24 g24 fd24)
    (a25 : PySem.W.nsIn K mainGlobals (Str.ofString "word_behind") = some (some (.ref g25))) (F25 : Fun K (Str.ofString "word_behind") (Str.ofString "word_behind") s25 g25 fd25)
    (a26 : PySem.W.nsIn K mainGlobals (Str.ofString "word_against") = some (some (.ref g26))) (F26 : Fun K (Str.ofString "word_against") (Str.ofString "word_against") s26 g26 fd26)
    (a27 : PySem.W.nsIn K mainGlobals (Str.ofString "_law_cup") = some (some (.ref g27))) (F27 : Fun K (Str.ofString "_law_cup") (Str.ofString "_law_cup") s27 g27 fd27)
    (a28 : PySem.W.nsIn K mainGlobals (Str.ofString "_law_roll") = some (some (.ref g28))) (F28 : Fun K (Str.ofString "_law_roll") (Str.ofString "_law_roll") s28 g28 fd28)
    (a29 : PySem.W.nsIn K mainGlobals (Str.ofString "_law_sort") = some (some (.ref g29))) (F29 : Fun K (Str.ofString "_law_sort") (Str.ofString "_law_sort") s29 g29 fd29)
    (a30 : PySem.W.nsIn K mainGlobals (Str.ofString "_law_like") = some (some (.ref g30))) (F30 : Fun K (Str.ofString "_law_like") (Str.ofString "_law_like") s30 g30 fd30)
    (a31 : PySem.W.nsIn K mainGlobals (Str.ofString "_law_floor") = some (some (.ref g31))) (F31 : Fun K (Str.ofString "_law_floor") (Str.ofString "_law_floor") s31 g31 fd31)
    (a32 : PySem.W.nsIn K mainGlobals (Str.ofString "_law_squares") = some (some (.ref g32))) (F32 : Fun K (Str.ofString "_law_squares") (Str.ofString "_law_squares") s32 g32 fd32)
    (a33 : PySem.W.nsIn K mainGlobals (Str.ofString "_law_words") = some (some (.ref g33))) (F33 : Fun K (Str.ofString "_law_words") (Str.ofString "_law_words") s33 g33 fd33)
    (a34 : PySem.W.nsIn K mainGlobals (Str.ofString "_law_goes") = some (some (.ref g34))) (F34 : Fun K (Str.ofString "_law_goes") (Str.ofString "_law_goes") s34 g34 fd34)
    (a35 : PySem.W.nsIn K mainGlobals (Str.ofString "_law_turned_floor") = some (some (.ref g35))) (F35 : Fun K (Str.ofString "_law_turned_floor") (Str.ofString "_law_turned_floor") s35 g35 fd35)
    (a36 : PySem.W.nsIn K mainGlobals (Str.ofString "_law_own_words") = some (some (.ref g36))) (F36 : Fun K (Str.ofString "_law_own_words") (Str.ofString "_law_own_words") s36 g36 fd36)
    (a37 : PySem.W.nsIn K mainGlobals (Str.ofString "_law_even_floor") = some (some (.ref g37))) (F37 : Fun K (Str.ofString "_law_even_floor") (Str.ofString "_law_even_floor") s37 g37 fd37)
    (a38 : PySem.W.nsIn K mainGlobals (Str.ofString "_law_right") = some (some (.ref g38))) (F38 : Fun K (Str.ofString "_law_right") (Str.ofString "_law_right") s38 g38 fd38)
    (a39 : PySem.W.nsIn K mainGlobals (Str.ofString "_law_behind_right") = some (some (.ref g39))) (F39 : Fun K (Str.ofString "_law_behind_right") (Str.ofString "_law_behind_right") s39 g39 fd39)
    (a40 : PySem.W.nsIn K mainGlobals (Str.ofString "law") = some (some (.ref g40))) (F40 : Fun K (Str.ofString "law") (Str.ofString "law") s40 g40 fd40)
    (z0 : PySem.W.nsIn K mainGlobals (Str.ofString "len") = some none)
    (z1 : PySem.W.nsIn K mainGlobals (Str.ofString "abs") = some none)
    (z2 : PySem.W.nsIn K mainGlobals (Str.ofString "all") = some none)
    (z3 : PySem.W.nsIn K mainGlobals (Str.ofString "int") = some none)
    (z4 : PySem.W.nsIn K mainGlobals (Str.ofString "tuple") = some none)
    (z5 : PySem.W.nsIn K mainGlobals (Str.ofString "isinstance") = some none)
    (z6 : PySem.W.nsIn K mainGlobals (Str.ofString "list") = some none)
    (z7 : PySem.W.nsIn K mainGlobals (Str.ofString "sorted") = some none)
    (z8 : PySem.W.nsIn K mainGlobals (Str.ofString "range") = some none)
    (z9 : PySem.W.nsIn K mainGlobals (Str.ofString "enumerate") = some none)
    (z10 : PySem.W.nsIn K mainGlobals (Str.ofString "zip") = some none)
    (z11 : PySem.W.nsIn K mainGlobals (Str.ofString "set") = some none)
    (z12 : PySem.W.nsIn K mainGlobals (Str.ofString "bool") = some none)
    (z13 : PySem.W.nsIn K mainGlobals (Str.ofString "str") = some none)
    {q0 : Tok} (y0 : PySem.W.nsIn K mainGlobals (Str.ofString "MOST") = some (some (.int 12 q0)))
    {q1 : Tok} (y1 : PySem.W.nsIn K mainGlobals (Str.ofString "SQUARE") = some (some (.str (Str.ofString ".") q1)))
    {q2 : Tok} (y2 : PySem.W.nsIn K mainGlobals (Str.ofString "HOLE") = some (some (.str (Str.ofString "#") q2)))
    {u3 : Addr} {od3 : Option Addr} {sl3 : Array (Option Value)} {nn3 : Nat} {q3_0 : Tok} {q3_1 : Tok} {q3_2 : Tok} {q3_3 : Tok} {q3_4 : Tok} {q3_5 : Tok} {q3_6 : Tok} {q3_7 : Tok} (y3 : PySem.W.nsIn K mainGlobals (Str.ofString "WORDS") = some (some (.ref u3))) (l3 : K.lookup u3 = some ⟨.type "tuple", od3, .seq #[.str (Str.ofString "back") q3_0, .str (Str.ofString "flat") q3_1, .str (Str.ofString "half") q3_2, .str (Str.ofString "quarter") q3_3, .str (Str.ofString "slant") q3_4, .str (Str.ofString "stay") q3_5, .str (Str.ofString "threequarter") q3_6, .str (Str.ofString "upright") q3_7] nn3, sl3⟩)
    {u4 : Addr} {od4 : Option Addr} {sl4 : Array (Option Value)} {nn4 : Nat} {q4_0 : Tok} {q4_1 : Tok} {q4_2 : Tok} {q4_3 : Tok} (y4 : PySem.W.nsIn K mainGlobals (Str.ofString "EXCHANGED") = some (some (.ref u4))) (l4 : K.lookup u4 = some ⟨.type "tuple", od4, .seq #[.str (Str.ofString "back") q4_0, .str (Str.ofString "quarter") q4_1, .str (Str.ofString "slant") q4_2, .str (Str.ofString "threequarter") q4_3] nn4, sl4⟩)
    {u5 : Addr} {od5 : Option Addr} {sl5 : Array (Option Value)} {nn5 : Nat} {q5_0 : Tok} {q5_1 : Tok} {q5_2 : Tok} {q5_3 : Tok} (y5 : PySem.W.nsIn K mainGlobals (Str.ofString "DOWN") = some (some (.ref u5))) (l5 : K.lookup u5 = some ⟨.type "tuple", od5, .seq #[.str (Str.ofString "back") q5_0, .str (Str.ofString "half") q5_1, .str (Str.ofString "quarter") q5_2, .str (Str.ofString "upright") q5_3] nn5, sl5⟩)
    {u6 : Addr} {od6 : Option Addr} {sl6 : Array (Option Value)} {nn6 : Nat} {q6_0 : Tok} {q6_1 : Tok} {q6_2 : Tok} {q6_3 : Tok} (y6 : PySem.W.nsIn K mainGlobals (Str.ofString "RIGHT") = some (some (.ref u6))) (l6 : K.lookup u6 = some ⟨.type "tuple", od6, .seq #[.str (Str.ofString "back") q6_0, .str (Str.ofString "flat") q6_1, .str (Str.ofString "half") q6_2, .str (Str.ofString "threequarter") q6_3] nn6, sl6⟩)
    (hm : ∀ ns : List Int, ns.length ≤ 63 → (RE.callF T FU 40).f 40 [.scr (ns.map RE.D.int)] = .ok (.bl true)) :
    ∃ fd : FuncData, (∀ (s : Shared) (u : Value), BindsTo s fd ⟨[u], []⟩ [("script", u)]) ∧ ∀ base : Heap, K.In base → base.Ns mainGlobals mg → FnOk P w K mg base CX0 40 fa fd ["script"] (RE.spLaw K) := by
  have tp : RE.TopOk w K mg (fun _ => none) bl cs := by
    refine ⟨fun x hx => ?_, fun x d hx => ?_⟩
    · unfold bl at hx
      simp only [List.mem_cons, List.not_mem_nil, or_false] at hx
      rcases hx with rfl | rfl | rfl | rfl | rfl | rfl | rfl | rfl | rfl | rfl | rfl | rfl | rfl | rfl
      · exact PySem.W.mg_none_of X G z0
      · exact PySem.W.mg_none_of X G z1
      · exact PySem.W.mg_none_of X G z2
      · exact PySem.W.mg_none_of X G z3
      · exact PySem.W.mg_none_of X G z4
      · exact PySem.W.mg_none_of X G z5
      · exact PySem.W.mg_none_of X G z6
      · exact PySem.W.mg_none_of X G z7
      · exact PySem.W.mg_none_of X G z8
      · exact PySem.W.mg_none_of X G z9
      · exact PySem.W.mg_none_of X G z10
      · exact PySem.W.mg_none_of X G z11
      · exact PySem.W.mg_none_of X G z12
      · exact PySem.W.mg_none_of X G z13
    · have hx := RE.lookup_mem hx
      unfold cs at hx
      simp only [List.mem_cons, List.not_mem_nil, or_false, Prod.mk.injEq] at hx
      rcases hx with ⟨rfl, rfl⟩ | ⟨rfl, rfl⟩ | ⟨rfl, rfl⟩ | ⟨rfl, rfl⟩ | ⟨rfl, rfl⟩ | ⟨rfl, rfl⟩ | ⟨rfl, rfl⟩
      · exact ⟨.int 12, _, PySem.W.mg_of X G y0, ⟨_, rfl⟩, fun Hf => .int _⟩
      · exact ⟨.str (Str.ofString "."), _, PySem.W.mg_of X G y1, ⟨_, rfl⟩, fun Hf => .str _⟩
      · exact ⟨.str (Str.ofString "#"), _, PySem.W.mg_of X G y2, ⟨_, rfl⟩, fun Hf => .str _⟩
      · exact ⟨.ref u3, .ref u3, PySem.W.mg_of X G y3, rfl, fun Hf => .tup (vs := [.str (Str.ofString "back"), .str (Str.ofString "flat"), .str (Str.ofString "half"), .str (Str.ofString "quarter"), .str (Str.ofString "slant"), .str (Str.ofString "stay"), .str (Str.ofString "threequarter"), .str (Str.ofString "upright")]) (.inr ⟨_, _, _, l3, rfl, rfl, by show 8 ≤ sizeLine; decide, .cons ⟨_, rfl⟩ (.cons ⟨_, rfl⟩ (.cons ⟨_, rfl⟩ (.cons ⟨_, rfl⟩ (.cons ⟨_, rfl⟩ (.cons ⟨_, rfl⟩ (.cons ⟨_, rfl⟩ (.cons ⟨_, rfl⟩ (.nil))))))))⟩) (.cons (.str _) (.cons (.str _) (.cons (.str _) (.cons (.str _) (.cons (.str _) (.cons (.str _) (.cons (.str _) (.cons (.str _) (.nil)))))))))⟩
      · exact ⟨.ref u4, .ref u4, PySem.W.mg_of X G y4, rfl, fun Hf => .tup (vs := [.str (Str.ofString "back"), .str (Str.ofString "quarter"), .str (Str.ofString "slant"), .str (Str.ofString "threequarter")]) (.inr ⟨_, _, _, l4, rfl, rfl, by show 4 ≤ sizeLine; decide, .cons ⟨_, rfl⟩ (.cons ⟨_, rfl⟩ (.cons ⟨_, rfl⟩ (.cons ⟨_, rfl⟩ (.nil))))⟩) (.cons (.str _) (.cons (.str _) (.cons (.str _) (.cons (.str _) (.nil)))))⟩
      · exact ⟨.ref u5, .ref u5, PySem.W.mg_of X G y5, rfl, fun Hf => .tup (vs := [.str (Str.ofString "back"), .str (Str.ofString "half"), .str (Str.ofString "quarter"), .str (Str.ofString "upright")]) (.inr ⟨_, _, _, l5, rfl, rfl, by show 4 ≤ sizeLine; decide, .cons ⟨_, rfl⟩ (.cons ⟨_, rfl⟩ (.cons ⟨_, rfl⟩ (.cons ⟨_, rfl⟩ (.nil))))⟩) (.cons (.str _) (.cons (.str _) (.cons (.str _) (.cons (.str _) (.nil)))))⟩
      · exact ⟨.ref u6, .ref u6, PySem.W.mg_of X G y6, rfl, fun Hf => .tup (vs := [.str (Str.ofString "back"), .str (Str.ofString "flat"), .str (Str.ofString "half"), .str (Str.ofString "threequarter")]) (.inr ⟨_, _, _, l6, rfl, rfl, by show 4 ≤ sizeLine; decide, .cons ⟨_, rfl⟩ (.cons ⟨_, rfl⟩ (.cons ⟨_, rfl⟩ (.cons ⟨_, rfl⟩ (.nil))))⟩) (.cons (.str _) (.cons (.str _) (.cons (.str _) (.cons (.str _) (.nil)))))⟩
  have b0 := F0.binds (ps := [Str.ofString "value"]) fun _ _ _ _ _ _ us hl => match us, hl with | [_], _ => rfl
  have d0 : RE.DefOk K mg fs bl cs T (Str.ofString "is_integer") 0 0 1 := ⟨_, s0, g0, fd0, _, c0, 40, F0, sc0, rfl, PySem.W.mg_of X G a0, b0, rfl, rfl, rfl, rfl, rfl, (fun z => by cases z), t0, rfl, ok0⟩
  have b1 := F1.binds (ps := [Str.ofString "value", Str.ofString "low", Str.ofString "high"]) fun _ _ _ _ _ _ us hl => match us, hl with | [_, _, _], _ => rfl
  have d1 : RE.DefOk K mg fs bl cs T (Str.ofString "is_whole") 0 1 3 := ⟨_, s1, g1, fd1, _, c1, 40, F1, sc1, rfl, PySem.W.mg_of X G a1, b1, rfl, rfl, rfl, rfl, rfl, (fun z => by cases z), t1, rfl, ok1⟩
  have b2 := F2.binds (ps := [Str.ofString "value", Str.ofString "low", Str.ofString "high"]) fun _ _ _ _ _ _ us hl => match us, hl with | [_, _, _], _ => rfl
  have d2 : RE.DefOk K mg fs bl cs T (Str.ofString "is_tuple_of") 0 2 3 := ⟨_, s2, g2, fd2, _, c2, 40, F2, sc2, rfl, PySem.W.mg_of X G a2, b2, rfl, rfl, rfl, rfl, rfl, (fun z => by cases z), t2, rfl, ok2⟩
  have b3 := F3.binds (ps := [Str.ofString "value", Str.ofString "signs", Str.ofString "low", Str.ofString "high"]) fun _ _ _ _ _ _ us hl => match us, hl with | [_, _, _, _], _ => rfl
  have d3 : RE.DefOk K mg fs bl cs T (Str.ofString "is_word") 0 3 4 := ⟨_, s3, g3, fd3, _, c3, 40, F3, sc3, rfl, PySem.W.mg_of X G a3, b3, rfl, rfl, rfl, rfl, rfl, (fun z => by cases z), t3, rfl, ok3⟩
  have b4 := F4.binds (ps := [Str.ofString "value"]) fun _ _ _ _ _ _ us hl => match us, hl with | [_], _ => rfl
  have d4 : RE.DefOk K mg fs bl cs T (Str.ofString "fits_floor") 0 4 1 := ⟨_, s4, g4, fd4, _, c4, 40, F4, sc4, rfl, PySem.W.mg_of X G a4, b4, rfl, rfl, rfl, rfl, rfl, (fun z => by cases z), t4, rfl, ok4⟩
  have b5 := F5.binds (ps := [Str.ofString "value"]) fun _ _ _ _ _ _ us hl => match us, hl with | [_], _ => rfl
  have d5 : RE.DefOk K mg fs bl cs T (Str.ofString "need_floor") 0 5 1 := ⟨_, s5, g5, fd5, _, c5, 40, F5, sc5, rfl, PySem.W.mg_of X G a5, b5, rfl, rfl, rfl, rfl, rfl, (fun z => by cases z), t5, rfl, ok5⟩
  have b6 := F6.binds (ps := [Str.ofString "value"]) fun _ _ _ _ _ _ us hl => match us, hl with | [_], _ => rfl
  have d6 : RE.DefOk K mg fs bl cs T (Str.ofString "is_place") 0 6 1 := ⟨_, s6, g6, fd6, _, c6, 40, F6, sc6, rfl, PySem.W.mg_of X G a6, b6, rfl, rfl, rfl, rfl, rfl, (fun z => by cases z), t6, rfl, ok6⟩
  have b7 := F7.binds (ps := [Str.ofString "floor"]) fun _ _ _ _ _ _ us hl => match us, hl with | [_], _ => rfl
  have d7 : RE.DefOk K mg fs bl cs T (Str.ofString "squares_in") 0 7 1 := ⟨_, s7, g7, fd7, _, c7, 40, F7, sc7, rfl, PySem.W.mg_of X G a7, b7, rfl, rfl, rfl, rfl, rfl, (fun z => by cases z), t7, rfl, ok7⟩
  have b8 := F8.binds (ps := [Str.ofString "floor", Str.ofString "value"]) fun _ _ _ _ _ _ us hl => match us, hl with | [_, _], _ => rfl
  have d8 : RE.DefOk K mg fs bl cs T (Str.ofString "is_square") 0 8 2 := ⟨_, s8, g8, fd8, _, c8, 40, F8, sc8, rfl, PySem.W.mg_of X G a8, b8, rfl, rfl, rfl, rfl, rfl, (fun z => by cases z), t8, rfl, ok8⟩
  have b9 := F9.binds (ps := [Str.ofString "floor", Str.ofString "value"]) fun _ _ _ _ _ _ us hl => match us, hl with | [_, _], _ => rfl
  have d9 : RE.DefOk K mg fs bl cs T (Str.ofString "need_square") 0 9 2 := ⟨_, s9, g9, fd9, _, c9, 40, F9, sc9, rfl, PySem.W.mg_of X G a9, b9, rfl, rfl, rfl, rfl, rfl, (fun z => by cases z), t9, rfl, ok9⟩
  have b10 := F10.binds (ps := [Str.ofString "floor"]) fun _ _ _ _ _ _ us hl => match us, hl with | [_], _ => rfl
  have d10 : RE.DefOk K mg fs bl cs T (Str.ofString "turned_in") 0 10 1 := ⟨_, s10, g10, fd10, _, c10, 40, F10, sc10, rfl, PySem.W.mg_of X G a10, b10, rfl, rfl, rfl, rfl, rfl, (fun z => by cases z), t10, rfl, ok10⟩
  have b11 := F11.binds (ps := [Str.ofString "floor"]) fun _ _ _ _ _ _ us hl => match us, hl with | [_], _ => rfl
  have d11 : RE.DefOk K mg fs bl cs T (Str.ofString "mirrored_in") 0 11 1 := ⟨_, s11, g11, fd11, _, c11, 40, F11, sc11, rfl, PySem.W.mg_of X G a11, b11, rfl, rfl, rfl, rfl, rfl, (fun z => by cases z), t11, rfl, ok11⟩
  have b12 := F12.binds (ps := [Str.ofString "floor"]) fun _ _ _ _ _ _ us hl => match us, hl with | [_], _ => rfl
  have d12 : RE.DefOk K mg fs bl cs T (Str.ofString "squares_of") 0 12 1 := ⟨_, s12, g12, fd12, _, c12, 40, F12, sc12, rfl, PySem.W.mg_of X G a12, b12, rfl, rfl, rfl, rfl, rfl, (fun z => by cases z), t12, rfl, ok12⟩
  have b13 := F13.binds (ps := [Str.ofString "floor"]) fun _ _ _ _ _ _ us hl => match us, hl with | [_], _ => rfl
  have d13 : RE.DefOk K mg fs bl cs T (Str.ofString "floor_turned") 0 13 1 := ⟨_, s13, g13, fd13, _, c13, 40, F13, sc13, rfl, PySem.W.mg_of X G a13, b13, rfl, rfl, rfl, rfl, rfl, (fun z => by cases z), t13, rfl, ok13⟩
  have b14 := F14.binds (ps := [Str.ofString "floor"]) fun _ _ _ _ _ _ us hl => match us, hl with | [_], _ => rfl
  have d14 : RE.DefOk K mg fs bl cs T (Str.ofString "floor_mirrored") 0 14 1 := ⟨_, s14, g14, fd14, _, c14, 40, F14, sc14, rfl, PySem.W.mg_of X G a14, b14, rfl, rfl, rfl, rfl, rfl, (fun z => by cases z), t14, rfl, ok14⟩
  have b15 := F15.binds (ps := [Str.ofString "rows", Str.ofString "columns", Str.ofString "word", Str.ofString "place"]) fun _ _ _ _ _ _ us hl => match us, hl with | [_, _, _, _], _ => rfl
  have d15 : RE.DefOk K mg fs bl cs T (Str.ofString "goes_to") 0 15 4 := ⟨_, s15, g15, fd15, _, c15, 40, F15, sc15, rfl, PySem.W.mg_of X G a15, b15, rfl, rfl, rfl, rfl, rfl, (fun z => by cases z), t15, rfl, ok15⟩
  have b16 := F16.binds (ps := [Str.ofString "rows", Str.ofString "columns", Str.ofString "word"]) fun _ _ _ _ _ _ us hl => match us, hl with | [_, _, _], _ => rfl
  have d16 : RE.DefOk K mg fs bl cs T (Str.ofString "sides_by") 0 16 3 := ⟨_, s16, g16, fd16, _, c16, 40, F16, sc16, rfl, PySem.W.mg_of X G a16, b16, rfl, rfl, rfl, rfl, rfl, (fun z => by cases z), t16, rfl, ok16⟩
  have b17 := F17.binds (ps := [Str.ofString "floor", Str.ofString "word"]) fun _ _ _ _ _ _ us hl => match us, hl with | [_, _], _ => rfl
  have d17 : RE.DefOk K mg fs bl cs T (Str.ofString "floor_by") 0 17 2 := ⟨_, s17, g17, fd17, _, c17, 40, F17, sc17, rfl, PySem.W.mg_of X G a17, b17, rfl, rfl, rfl, rfl, rfl, (fun z => by cases z), t17, rfl, ok17⟩
  have b18 := F18.binds (ps := [Str.ofString "floor"]) fun _ _ _ _ _ _ us hl => match us, hl with | [_], _ => rfl
  have d18 : RE.DefOk K mg fs bl cs T (Str.ofString "own_words_in") 0 18 1 := ⟨_, s18, g18, fd18, _, c18, 40, F18, sc18, rfl, PySem.W.mg_of X G a18, b18, rfl, rfl, rfl, rfl, rfl, (fun z => by cases z), t18, rfl, ok18⟩
  have b19 := F19.binds (ps := [Str.ofString "word", Str.ofString "other"]) fun _ _ _ _ _ _ us hl => match us, hl with | [_, _], _ => rfl
  have d19 : RE.DefOk K mg fs bl cs T (Str.ofString "behind_in") 0 19 2 := ⟨_, s19, g19, fd19, _, c19, 40, F19, sc19, rfl, PySem.W.mg_of X G a19, b19, rfl, rfl, rfl, rfl, rfl, (fun z => by cases z), t19, rfl, ok19⟩
  have b20 := F20.binds (ps := [Str.ofString "word"]) fun _ _ _ _ _ _ us hl => match us, hl with | [_], _ => rfl
  have d20 : RE.DefOk K mg fs bl cs T (Str.ofString "against_in") 0 20 1 := ⟨_, s20, g20, fd20, _, c20, 40, F20, sc20, rfl, PySem.W.mg_of X G a20, b20, rfl, rfl, rfl, rfl, rfl, (fun z => by cases z), t20, rfl, ok20⟩
  have b21 := F21.binds (ps := [Str.ofString "value"]) fun _ _ _ _ _ _ us hl => match us, hl with | [_], _ => rfl
  have d21 : RE.DefOk K mg fs bl cs T (Str.ofString "need_turn_word") 0 21 1 := ⟨_, s21, g21, fd21, _, c21, 40, F21, sc21, rfl, PySem.W.mg_of X G a21, b21, rfl, rfl, rfl, rfl, rfl, (fun z => by cases z), t21, rfl, ok21⟩
  have b22 := F22.binds (ps := [Str.ofString "floor", Str.ofString "word"]) fun _ _ _ _ _ _ us hl => match us, hl with | [_, _], _ => rfl
  have d22 : RE.DefOk K mg fs bl cs T (Str.ofString "floor_by_word") 0 22 2 := ⟨_, s22, g22, fd22, _, c22, 40, F22, sc22, rfl, PySem.W.mg_of X G a22, b22, rfl, rfl, rfl, rfl, rfl, (fun z => by cases z), t22, rfl, ok22⟩
  have b23 := F23.binds (ps := [Str.ofString "floor", Str.ofString "word", Str.ofString "square"]) fun _ _ _ _ _ _ us hl => match us, hl with | [_, _, _], _ => rfl
  have d23 : RE.DefOk K mg fs bl cs T (Str.ofString "square_by_word") 0 23 3 := ⟨_, s23, g23, fd23, _, c23, 40, F23, sc23, rfl, PySem.W.mg_of X G a23, b23, rfl, rfl, rfl, rfl, rfl, (fun z => by cases z), t23, rfl, ok23⟩
  have b24 := F24.binds (ps := [Str.ofString "floor"]) fun _ _ _ _ _ _ us hl => match us, hl with | [_], _ => rfl
  have d24 : RE.DefOk K mg fs bl cs T (Str.ofString "own_words") 0 24 1 := ⟨_, s24, g24, fd24, _, c24, 40, F24, sc24, rfl, PySem.W.mg_of X G a24, b24, rfl, rfl, rfl, rfl, rfl, (fun z => by cases z), t24, rfl, ok24⟩
  have b25 := F25.binds (ps := [Str.ofString "word", Str.ofString "other"]) fun _ _ _ _ _ _ us hl => match us, hl with | [_, _], _ => rfl
  have d25 : RE.DefOk K mg fs bl cs T (Str.ofString "word_behind") 0 25 2 := ⟨_, s25, g25, fd25, _, c25, 40, F25, sc25, rfl, PySem.W.mg_of X G a25, b25, rfl, rfl, rfl, rfl, rfl, (fun z => by cases z), t25, rfl, ok25⟩
  have b26 := F26.binds (ps := [Str.ofString "word"]) fun _ _ _ _ _ _ us hl => match us, hl with | [_], _ => rfl
  have d26 : RE.DefOk K mg fs bl cs T (Str.ofString "word_against") 0 26 1 := ⟨_, s26, g26, fd26, _, c26, 40, F26, sc26, rfl, PySem.W.mg_of X G a26, b26, rfl, rfl, rfl, rfl, rfl, (fun z => by cases z), t26, rfl, ok26⟩
  have b27 := F27.binds (ps := [Str.ofString "script"]) fun _ _ _ _ _ _ us hl => match us, hl with | [_], _ => rfl
  have d27 : RE.DefOk K mg fs bl cs T (Str.ofString "_law_cup") 2 27 1 := ⟨_, s27, g27, fd27, _, c27, 40, F27, sc27, rfl, PySem.W.mg_of X G a27, b27, rfl, rfl, rfl, rfl, rfl, (fun z => by cases z), t27, rfl, ok27⟩
  have b28 := F28.binds (ps := [Str.ofString "cup", Str.ofString "many"]) fun _ _ _ _ _ _ us hl => match us, hl with | [_, _], _ => rfl
  have d28 : RE.DefOk K mg fs bl cs T (Str.ofString "_law_roll") 1 28 2 := ⟨_, s28, g28, fd28, _, c28, 40, F28, sc28, rfl, PySem.W.mg_of X G a28, b28, rfl, rfl, rfl, rfl, rfl, (fun _ => rfl), t28, rfl, ok28⟩
  have b29 := F29.binds (ps := [Str.ofString "value"]) fun _ _ _ _ _ _ us hl => match us, hl with | [_], _ => rfl
  have d29 : RE.DefOk K mg fs bl cs T (Str.ofString "_law_sort") 0 29 1 := ⟨_, s29, g29, fd29, _, c29, 40, F29, sc29, rfl, PySem.W.mg_of X G a29, b29, rfl, rfl, rfl, rfl, rfl, (fun z => by cases z), t29, rfl, ok29⟩
  have b30 := F30.binds (ps := [Str.ofString "one", Str.ofString "other"]) fun _ _ _ _ _ _ us hl => match us, hl with | [_, _], _ => rfl
  have d30 : RE.DefOk K mg fs bl cs T (Str.ofString "_law_like") 0 30 2 := ⟨_, s30, g30, fd30, _, c30, 40, F30, sc30, rfl, PySem.W.mg_of X G a30, b30, rfl, rfl, rfl, rfl, rfl, (fun z => by cases z), t30, rfl, ok30⟩
  have b31 := F31.binds (ps := [Str.ofString "cup", Str.ofString "rows", Str.ofString "columns", Str.ofString "holes"]) fun _ _ _ _ _ _ us hl => match us, hl with | [_, _, _, _], _ => rfl
  have d31 : RE.DefOk K mg fs bl cs T (Str.ofString "_law_floor") 1 31 4 := ⟨_, s31, g31, fd31, _, c31, 40, F31, sc31, rfl, PySem.W.mg_of X G a31, b31, rfl, rfl, rfl, rfl, rfl, (fun _ => rfl), t31, rfl, ok31⟩
  have b32 := F32.binds (ps := [Str.ofString "floor"]) fun _ _ _ _ _ _ us hl => match us, hl with | [_], _ => rfl
  have d32 : RE.DefOk K mg fs bl cs T (Str.ofString "_law_squares") 0 32 1 := ⟨_, s32, g32, fd32, _, c32, 40, F32, sc32, rfl, PySem.W.mg_of X G a32, b32, rfl, rfl, rfl, rfl, rfl, (fun z => by cases z), t32, rfl, ok32⟩
  have b33 := F33.binds (ps := ([] : List Str)) fun _ _ _ _ _ _ us hl => match us, hl with | [], _ => rfl
  have d33 : RE.DefOk K mg fs bl cs T (Str.ofString "_law_words") 0 33 0 := ⟨_, s33, g33, fd33, _, c33, 40, F33, sc33, rfl, PySem.W.mg_of X G a33, b33, rfl, rfl, rfl, rfl, rfl, (fun z => by cases z), t33, rfl, ok33⟩
  have b34 := F34.binds (ps := [Str.ofString "rows", Str.ofString "columns", Str.ofString "word", Str.ofString "place"]) fun _ _ _ _ _ _ us hl => match us, hl with | [_, _, _, _], _ => rfl
  have d34 : RE.DefOk K mg fs bl cs T (Str.ofString "_law_goes") 0 34 4 := ⟨_, s34, g34, fd34, _, c34, 40, F34, sc34, rfl, PySem.W.mg_of X G a34, b34, rfl, rfl, rfl, rfl, rfl, (fun z => by cases z), t34, rfl, ok34⟩
  have b35 := F35.binds (ps := [Str.ofString "floor", Str.ofString "word"]) fun _ _ _ _ _ _ us hl => match us, hl with | [_, _], _ => rfl
  have d35 : RE.DefOk K mg fs bl cs T (Str.ofString "_law_turned_floor") 0 35 2 := ⟨_, s35, g35, fd35, _, c35, 40, F35, sc35, rfl, PySem.W.mg_of X G a35, b35, rfl, rfl, rfl, rfl, rfl, (fun z => by cases z), t35, rfl, ok35⟩
  have b36 := F36.binds (ps := [Str.ofString "floor"]) fun _ _ _ _ _ _ us hl => match us, hl with | [_], _ => rfl
  have d36 : RE.DefOk K mg fs bl cs T (Str.ofString "_law_own_words") 0 36 1 := ⟨_, s36, g36, fd36, _, c36, 40, F36, sc36, rfl, PySem.W.mg_of X G a36, b36, rfl, rfl, rfl, rfl, rfl, (fun z => by cases z), t36, rfl, ok36⟩
  have b37 := F37.binds (ps := [Str.ofString "cup", Str.ofString "most"]) fun _ _ _ _ _ _ us hl => match us, hl with | [_, _], _ => rfl
  have d37 : RE.DefOk K mg fs bl cs T (Str.ofString "_law_even_floor") 1 37 2 := ⟨_, s37, g37, fd37, _, c37, 40, F37, sc37, rfl, PySem.W.mg_of X G a37, b37, rfl, rfl, rfl, rfl, rfl, (fun _ => rfl), t37, rfl, ok37⟩
  have b38 := F38.binds (ps := [Str.ofString "floor"]) fun _ _ _ _ _ _ us hl => match us, hl with | [_], _ => rfl
  have d38 : RE.DefOk K mg fs bl cs T (Str.ofString "_law_right") 0 38 1 := ⟨_, s38, g38, fd38, _, c38, 40, F38, sc38, rfl, PySem.W.mg_of X G a38, b38, rfl, rfl, rfl, rfl, rfl, (fun z => by cases z), t38, rfl, ok38⟩
  have b39 := F39.binds (ps := [Str.ofString "floor"]) fun _ _ _ _ _ _ us hl => match us, hl with | [_], _ => rfl
  have d39 : RE.DefOk K mg fs bl cs T (Str.ofString "_law_behind_right") 0 39 1 := ⟨_, s39, g39, fd39, _, c39, 40, F39, sc39, rfl, PySem.W.mg_of X G a39, b39, rfl, rfl, rfl, rfl, rfl, (fun z => by cases z), t39, rfl, ok39⟩
  have b40 := F40.binds (ps := [Str.ofString "script"]) fun _ _ _ _ _ _ us hl => match us, hl with | [_], _ => rfl
  have d40 : RE.DefOk K mg fs bl cs T (Str.ofString "law") 0 40 1 := ⟨_, s40, g40, fd40, _, c40, 40, F40, sc40, rfl, PySem.W.mg_of X G a40, b40, rfl, rfl, rfl, rfl, rfl, (fun z => by cases z), t40, rfl, ok40⟩
  have hd : ∀ x kd i np, fs.lookup x = some (kd, i, np) → RE.DefOk K mg fs bl cs T x kd i np := fun x kd i np hx => by
    have hx := RE.lookup_mem hx
    unfold fs at hx
    simp only [List.mem_cons, List.not_mem_nil, or_false, Prod.mk.injEq] at hx
    rcases hx with ⟨rfl, rfl, rfl, rfl⟩ | ⟨rfl, rfl, rfl, rfl⟩ | ⟨rfl, rfl, rfl, rfl⟩ | ⟨rfl, rfl, rfl, rfl⟩ | ⟨rfl, rfl, rfl, rfl⟩ | ⟨rfl, rfl, rfl, rfl⟩ | ⟨rfl, rfl, rfl, rfl⟩ | ⟨rfl, rfl, rfl, rfl⟩ | ⟨rfl, rfl, rfl, rfl⟩ | ⟨rfl, rfl, rfl, rfl⟩ | ⟨rfl, rfl, rfl, rfl⟩ | ⟨rfl, rfl, rfl, rfl⟩ | ⟨rfl, rfl, rfl, rfl⟩ | ⟨rfl, rfl, rfl, rfl⟩ | ⟨rfl, rfl, rfl, rfl⟩ | ⟨rfl, rfl, rfl, rfl⟩ | ⟨rfl, rfl, rfl, rfl⟩ | ⟨rfl, rfl, rfl, rfl⟩ | ⟨rfl, rfl, rfl, rfl⟩ | ⟨rfl, rfl, rfl, rfl⟩ | ⟨rfl, rfl, rfl, rfl⟩ | ⟨rfl, rfl, rfl, rfl⟩ | ⟨rfl, rfl, rfl, rfl⟩ | ⟨rfl, rfl, rfl, rfl⟩ | ⟨rfl, rfl, rfl, rfl⟩ | ⟨rfl, rfl, rfl, rfl⟩ | ⟨rfl, rfl, rfl, rfl⟩ | ⟨rfl, rfl, rfl, rfl⟩ | ⟨rfl, rfl, rfl, rfl⟩ | ⟨rfl, rfl, rfl, rfl⟩ | ⟨rfl, rfl, rfl, rfl⟩ | ⟨rfl, rfl, rfl, rfl⟩ | ⟨rfl, rfl, rfl, rfl⟩ | ⟨rfl, rfl, rfl, rfl⟩ | ⟨rfl, rfl, rfl, rfl⟩ | ⟨rfl, rfl, rfl, rfl⟩ | ⟨rfl, rfl, rfl, rfl⟩ | ⟨rfl, rfl, rfl, rfl⟩ | ⟨rfl, rfl, rfl, rfl⟩ | ⟨rfl, rfl, rfl, rfl⟩ | ⟨rfl, rfl, rfl, rfl⟩
    · exact d0
    · exact d1
    · exact d2
    · exact d3
    · exact d4
    · exact d5
    · exact d6
    · exact d7
    · exact d8
    · exact d9
    · exact d10
    · exact d11
    · exact d12
    · exact d13
    · exact d14
    · exact d15
    · exact d16
    · exact d17
    · exact d18
    · exact d19
    · exact d20
    · exact d21
    · exact d22
    · exact d23
    · exact d24
    · exact d25
    · exact d26
    · exact d27
    · exact d28
    · exact d29
    · exact d30
    · exact d31
    · exact d32
    · exact d33
    · exact d34
    · exact d35
    · exact d36
    · exact d37
    · exact d38
    · exact d39
    · exact d40
  have e := hfa.symm.trans (PySem.W.mg_of X G a40)
  cases e
  obtain ⟨oc, od, kV, doc, pm, an, cdv, ct, osl, efd, lk, hcd⟩ := F40.ex
  refine ⟨fd40, fun s v => by rw [efd]; exact .of_eq rfl, fun base _ _ => ?_⟩
  exact RE.law_of (RE.def_core (P := P) (base := base) (kd := 0) (i := 40) (np := 1) (n := 40) tp (RE.tab_ok (P := P) (base := base) (fu := Lw.FU) tp hd 39) F40 sc40 rfl (C := c40) rfl rfl rfl rfl rfl (fun z => by cases z) (fn := t40) rfl ok40) hm
end Lw
end
open PySem PySem.W PyProof.Rows in
set_option maxRecDepth 100000 in
set_option maxHeartbeats 0 in
theorem PySem.Challenge.cw_floorslaid_k75_whole_turn_words_holds : PySem.Challenge.rw_floorslaid_k75_whole_turn_words.Holds := by
  w_on; o_law; k_head; (case hw => w_witness2)
  k_fill
  refine RE.walk (l := PySem.Challenge.rw_floorslaid_k75_whole_turn_words) (k := 40) rfl rfl ⟨rfl, by decide, by decide⟩ (fun w h Y => PySem.W.kIn_of Y) ?F
  case F =>
    intro w mg fa h KX G hmg
    refine' Lw.all_mk KX G hmg ?a0 (L2.fun_mk (st := Lw.s0) ?i0 ?e0 ?k0) ?a1 (L2.fun_mk (st := Lw.s1) ?i1 ?e1 ?k1) ?a2 (L2.fun_mk (st := Lw.s2) ?i2 ?e2 ?k2) ?a3 (L2.fun_mk (st := Lw.s3) ?i3 ?e3 ?k3) ?a4 (L2.fun_mk (st := Lw.s4) ?i4 ?e4 ?k4) ?a5 (L2.fun_mk (st := Lw.s5) ?i5 ?e5 ?k5) ?a6 (L2.fun_mk (st := Lw.s6) ?i6 ?e6 ?k6) ?a7 (L2.fun_mk (st := Lw.s7) ?i7 ?e7 ?k7) ?a8 (L2.fun_mk (st := Lw.s8) ?i8 ?e8 ?k8) ?a9 (L2.fun_mk (st := Lw.s9) ?i9 ?e9 ?k9) ?a10 (L2.fun_mk (st := Lw.s10) ?i10 ?e10 ?k10) ?a11 (L2.fun_mk (st := Lw.s11) ?i11 ?e11 ?k11) ?a12 (L2.fun_mk (st := Lw.s12) ?i12 ?e12 ?k12) ?a13 (L2.fun_mk (st := Lw.s13) ?i13 ?e13 ?k13) ?a14 (L2.fun_mk (st := Lw.s14) ?i14 ?e14 ?k14) ?a15 (L2.fun_mk (st := Lw.s15) ?i15 ?e15 ?k15) ?a16 (L2.fun_mk (st := Lw.s16) ?i16 ?e16 ?k16) ?a17 (L2.fun_mk (st := Lw.s17) ?i17 ?e17 ?k17) ?a18 (L2.fun_mk (st := Lw.s18) ?i18 ?e18 ?k18) ?a19 (L2.fun_mk (st := Lw.s19) ?i19 ?e19 ?k19) ?a20 (L2.fun_mk (st := Lw.s20) ?i20 ?e20 ?k20) ?a21 (L2.fun_mk (st := Lw.s21) ?i21 ?e21 ?k21) ?a22 (L2.fun_mk (st := Lw.s22) ?i22 ?e22 ?k22) ?a23 (L2.fun_mk (st := Lw.s23) ?i23 ?e23 ?k23) ?a24 (L2.fun_mk (st := Lw.s24) ?i24 ?e24 ?k24) ?a25 (L2.fun_mk (st := Lw.s25) ?i25 ?e25 ?k25) ?a26 (L2.fun_mk (st := Lw.s26) ?i26 ?e26 ?k26) ?a27 (L2.fun_mk (st := Lw.s27) ?i27 ?e27 ?k27) ?a28 (L2.fun_mk (st := Lw.s28) ?i28 ?e28 ?k28) ?a29 (L2.fun_mk (st := Lw.s29) ?i29 ?e29 ?k29) ?a30 (L2.fun_mk (st := Lw.s30) ?i30 ?e30 ?k30) ?a31 (L2.fun_mk (st := Lw.s31) ?i31 ?e31 ?k31) ?a32 (L2.fun_mk (st := Lw.s32) ?i32 ?e32 ?k32) ?a33 (L2.fun_mk (st := Lw.s33) ?i33 ?e33 ?k33) ?a34 (L2.fun_mk (st := Lw.s34) ?i34 ?e34 ?k34) ?a35 (L2.fun_mk (st := Lw.s35) ?i35 ?e35 ?k35) ?a36 (L2.fun_mk (st := Lw.s36) ?i36 ?e36 ?k36) ?a37 (L2.fun_mk (st := Lw.s37) ?i37 ?e37 ?k37) ?a38 (L2.fun_mk (st := Lw.s38) ?i38 ?e38 ?k38) ?a39 (L2.fun_mk (st := Lw.s39) ?i39 ?e39 ?k39) ?a40 (L2.fun_mk (st := Lw.s40) ?i40 ?e40 ?k40) ?z0 ?z1 ?z2 ?z3 ?z4 ?z5 ?z6 ?z7 ?z8 ?z9 ?z10 ?z11 ?z12 ?z13 ?y0 ?y1 ?y2 ?y3 ?l3 ?y4 ?l4 ?y5 ?l5 ?y6 ?l6 (fun ns hl => Lw.math ns hl)
    (case a0 => k_is)
    (case i0 => k_is)
    (case e0 => k_is)
    (case k0 => k_is)
    (case a1 => k_is)
    (case i1 => k_is)
    (case e1 => k_is)
    (case k1 => k_is)
    (case a2 => k_is)
    (case i2 => k_is)
    (case e2 => k_is)
    (case k2 => k_is)
    (case a3 => k_is)
    (case i3 => k_is)
    (case e3 => k_is)
    (case k3 => k_is)
    (case a4 => k_is)
    (case i4 => k_is)
    (case e4 => k_is)
    (case k4 => k_is)
    (case a5 => k_is)
    (case i5 => k_is)
    (case e5 => k_is)
    (case k5 => k_is)
    (case a6 => k_is)
    (case i6 => k_is)
    (case e6 => k_is)
    (case k6 => k_is)
    (case a7 => k_is)
    (case i7 => k_is)
    (case e7 => k_is)
    (case k7 => k_is)
    (case a8 => k_is)
    (case i8 => k_is)
    (case e8 => k_is)
    (case k8 => k_is)
    (case a9 => k_is)
    (case i9 => k_is)
    (case e9 => k_is)
    (case k9 => k_is)
    (case a10 => k_is)
    (case i10 => k_is)
    (case e10 => k_is)
    (case k10 => k_is)
    (case a11 => k_is)
    (case i11 => k_is)
    (case e11 => k_is)
    (case k11 => k_is)
    (case a12 => k_is)
    (case i12 => k_is)
    (case e12 => k_is)
    (case k12 => k_is)
    (case a13 => k_is)
    (case i13 => k_is)
    (case e13 => k_is)
    (case k13 => k_is)
    (case a14 => k_is)
    (case i14 => k_is)
    (case e14 => k_is)
    (case k14 => k_is)
    (case a15 => k_is)
    (case i15 => k_is)
    (case e15 => k_is)
    (case k15 => k_is)
    (case a16 => k_is)
    (case i16 => k_is)
    (case e16 => k_is)
    (case k16 => k_is)
    (case a17 => k_is)
    (case i17 => k_is)
    (case e17 => k_is)
    (case k17 => k_is)
    (case a18 => k_is)
    (case i18 => k_is)
    (case e18 => k_is)
    (case k18 => k_is)
    (case a19 => k_is)
    (case i19 => k_is)
    (case e19 => k_is)
    (case k19 => k_is)
    (case a20 => k_is)
    (case i20 => k_is)
    (case e20 => k_is)
    (case k20 => k_is)
    (case a21 => k_is)
    (case i21 => k_is)
    (case e21 => k_is)
    (case k21 => k_is)
    (case a22 => k_is)
    (case i22 => k_is)
    (case e22 => k_is)
    (case k22 => k_is)
    (case a23 => k_is)
    (case i23 => k_is)
    (case e23 => k_is)
    (case k23 => k_is)
    (case a24 => k_is)
    (case i24 => k_is)
    (case e24 => k_is)
    (case k24 => k_is)
    (case a25 => k_is)
    (case i25 => k_is)
    (case e25 => k_is)
    (case k25 => k_is)
    (case a26 => k_is)
    (case i26 => k_is)
    (case e26 => k_is)
    (case k26 => k_is)
    (case a27 => k_is)
    (case i27 => k_is)
    (case e27 => k_is)
    (case k27 => k_is)
    (case a28 => k_is)
    (case i28 => k_is)
    (case e28 => k_is)
    (case k28 => k_is)
    (case a29 => k_is)
    (case i29 => k_is)
    (case e29 => k_is)
    (case k29 => k_is)
    (case a30 => k_is)
    (case i30 => k_is)
    (case e30 => k_is)
    (case k30 => k_is)
    (case a31 => k_is)
    (case i31 => k_is)
    (case e31 => k_is)
    (case k31 => k_is)
    (case a32 => k_is)
    (case i32 => k_is)
    (case e32 => k_is)
    (case k32 => k_is)
    (case a33 => k_is)
    (case i33 => k_is)
    (case e33 => k_is)
    (case k33 => k_is)
    (case a34 => k_is)
    (case i34 => k_is)
    (case e34 => k_is)
    (case k34 => k_is)
    (case a35 => k_is)
    (case i35 => k_is)
    (case e35 => k_is)
    (case k35 => k_is)
    (case a36 => k_is)
    (case i36 => k_is)
    (case e36 => k_is)
    (case k36 => k_is)
    (case a37 => k_is)
    (case i37 => k_is)
    (case e37 => k_is)
    (case k37 => k_is)
    (case a38 => k_is)
    (case i38 => k_is)
    (case e38 => k_is)
    (case k38 => k_is)
    (case a39 => k_is)
    (case i39 => k_is)
    (case e39 => k_is)
    (case k39 => k_is)
    (case a40 => k_is)
    (case i40 => k_is)
    (case e40 => k_is)
    (case k40 => k_is)
    (case z0 => k_is)
    (case z1 => k_is)
    (case z2 => k_is)
    (case z3 => k_is)
    (case z4 => k_is)
    (case z5 => k_is)
    (case z6 => k_is)
    (case z7 => k_is)
    (case z8 => k_is)
    (case z9 => k_is)
    (case z10 => k_is)
    (case z11 => k_is)
    (case z12 => k_is)
    (case z13 => k_is)
    (case y0 => k_is)
    (case y1 => k_is)
    (case y2 => k_is)
    (case y3 => k_is)
    (case l3 => k_is)
    (case y4 => k_is)
    (case l4 => k_is)
    (case y5 => k_is)
    (case l5 => k_is)
    (case y6 => k_is)
    (case l6 => k_is)
